/- Written by a program of this session (wip/tool/px.py) over the kit's print: what the code that the law PastSources reaches computes, function by function, and the law's row. -/
import Derived.Test.YtmenkbdaabjojaaPPastSourcesx0
import Derived.Test.YtmenkbdaabjojaaSPastSourcesXWWideR
import Derived.Test.YtmenkbdaabjojaaPPastSourcesx3
import Derived.Test.YtmenkbdaabjojaaPPastSourcesx7
import Derived.Test.YtmenkbdaabjojaaPPastSourcesx12
import Derived.Test.YtmenkbdaabjojaaPPastSourcesx13
namespace Go.Proofs.Ytmenkbdaabjojaa.PPastSources
open Go.RowKit Go.Proofs.YtmenkbdaabjojaaX Go.Proofs.YtmenkbdaabjojaaW.PrintWords Go.Proofs.YtmenkbdaabjojaaW.PrintLast Go.Proofs.YtmenkbdaabjojaaW.PrintMore
open List renaming setIfInBounds_toArray → zS, set_cons_zero → zZ, set_cons_succ → zC
open Go.Proofs.YtmenkbdaabjojaaW.PrintWords renaming blk_drewN → zN, blk_drew → zD, blk_alloc → zA, blk_cell → zL, blk_frozen → zF, below_step → zB
open Go.Proofs.YtmenkbdaabjojaaW.PrintWords.Aside0 renaming mk → zM
attribute [local go_sem] max2_int min2_int max_two min_two max_three min_three max_four min_four   -- for this text's walks alone
set_option linter.unusedVariables false
set_option linter.unusedSimpArgs false

attribute [local go_sem] px_store_float px_neg_float px_call40
/-! ### ropewaylaw21_PastSources: function 6 -/
def ropewaylaw21_PastSources.j0 : Nat → List (S35) → Bool → Int → Int → Int → Int → Int → Nat → Int → Int → Int → Int → Int → Int → Int → Int → Nat → Option (Bool)
  | 0, _, _, _, _, _, _, _, _, _, _, _, _, _, _, _, _, _ => none
  | k + 1, x0, x69, x332000, x332001, x332002, x332003, x332004, x332005, x332006, x332007, x332008, x332009, x332010, x332011, x332012, x332013, x332014 => if x69 = true then (some false) else ((past_Fits.f k x0).bind fun t340 => (if t340 = true then ((some (([] : List (S35)) : List (S35))).bind fun y341 => (if y341.length + x0.length < 1172812402961 then ((some (y341 ++ x0 : List (S35))).bind fun y344 => ((some (([(⟨x332000, x332001, (-1), (⟨x332003, x332004, x332005, (⟨x332006, x332007⟩ : S24)⟩ : S26), (⟨x332008, (⟨x332009, x332010⟩ : S24), (⟨x332011, (⟨x332012, x332013⟩ : S29), x332014⟩ : S31)⟩ : S33)⟩ : S35)] : List (S35)) : List (S35))).bind fun y347 => (if y344.length + y347.length < 1172812402961 then ((past_Fits.f k (y344 ++ y347)).bind fun t353 => (some t353)) else (none)))) else (none))) else (some true)))
def ropewaylaw21_PastSources.f (k : Nat) (l0 : List (S35)) (a1 : Int) (a2_0 : Int) (a2_1 : Int) (a2_2 : Int) (a2_3 : Int) (a2_4 : Int) (a2_5 : Nat) (a2_6 : Int) (a2_7 : Int) (a2_8 : Int) (a2_9 : Int) (a2_10 : Int) (a2_11 : Int) (a2_12 : Int) (a2_13 : Int) (a2_14 : Nat) : Option (Bool) := (ropewaylaw21_pastAlive.f k).bind fun t332 => (if t332 = true then (if (l0.length : Int) > 30 then (some true) else ((past_Source.f k l0 a1).bind fun t333 => (if t333 ≥ 0 then (if 0 ≤ a1 then (if a1 < (l0.length : Int) then (if 0 ≤ t333 then (if t333 < (l0.length : Int) then (if ((rd_T35 l0 t333).f3.f0) = 1 then (if ((rd_T35 l0 t333).f3.f1) = ((rd_T35 l0 a1).f3.f1) then (if ((rd_T35 l0 t333).f1) > ((rd_T35 l0 a1).f2) then (ropewaylaw21_PastSources.j0 k l0 true a2_0 a2_1 a2_2 a2_3 a2_4 a2_5 a2_6 a2_7 a2_8 a2_9 a2_10 a2_11 a2_12 a2_13 a2_14) else ((ropewayref01_Bits.f ((rd_T35 l0 t333).f3.f2)).bind fun t338 => ((ropewayref01_Bits.f ((rd_T35 l0 a1).f4.f2.f2)).bind fun t339 => (if t338 = t339 then (ropewaylaw21_PastSources.j0 k l0 (((rd_T35 l0 t333).f0) != ((rd_T35 l0 a1).f4.f2.f1.f1)) a2_0 a2_1 a2_2 a2_3 a2_4 a2_5 a2_6 a2_7 a2_8 a2_9 a2_10 a2_11 a2_12 a2_13 a2_14) else (ropewaylaw21_PastSources.j0 k l0 true a2_0 a2_1 a2_2 a2_3 a2_4 a2_5 a2_6 a2_7 a2_8 a2_9 a2_10 a2_11 a2_12 a2_13 a2_14))))) else (ropewaylaw21_PastSources.j0 k l0 true a2_0 a2_1 a2_2 a2_3 a2_4 a2_5 a2_6 a2_7 a2_8 a2_9 a2_10 a2_11 a2_12 a2_13 a2_14)) else (ropewaylaw21_PastSources.j0 k l0 true a2_0 a2_1 a2_2 a2_3 a2_4 a2_5 a2_6 a2_7 a2_8 a2_9 a2_10 a2_11 a2_12 a2_13 a2_14)) else (none)) else (none)) else (none)) else (none)) else ((past_Fits.f k l0).bind fun t354 => (if t354 = true then ((some (([] : List (S35)) : List (S35))).bind fun y355 => (if y355.length + l0.length < 1172812402961 then ((some (y355 ++ l0 : List (S35))).bind fun y358 => ((some (([(⟨a2_0, a2_1, (-1), (⟨a2_3, a2_4, a2_5, (⟨a2_6, a2_7⟩ : S24)⟩ : S26), (⟨a2_8, (⟨a2_9, a2_10⟩ : S24), (⟨a2_11, (⟨a2_12, a2_13⟩ : S29), a2_14⟩ : S31)⟩ : S33)⟩ : S35)] : List (S35)) : List (S35))).bind fun y361 => (if y358.length + y361.length < 1172812402961 then ((past_Fits.f k (y358 ++ y361)).bind fun t367 => (some t367)) else (none)))) else (none))) else (some true)))))) else (some false))
theorem ropewaylaw21_PastSources.mono_l : ∀ k, (∀ y0 y1 y2 y3 y4 y5 y6 y7 y8 y9 y10 y11 y12 y13 y14 y15 y16, LeO (ropewaylaw21_PastSources.j0 k y0 y1 y2 y3 y4 y5 y6 y7 y8 y9 y10 y11 y12 y13 y14 y15 y16) (ropewaylaw21_PastSources.j0 (k + 1) y0 y1 y2 y3 y4 y5 y6 y7 y8 y9 y10 y11 y12 y13 y14 y15 y16))
  | 0 => fun _ _ _ _ _ _ _ _ _ _ _ _ _ _ _ _ _ r h => by simp [ropewaylaw21_PastSources.j0] at h
  | k + 1 => by
    have ih0 := ropewaylaw21_PastSources.mono_l k
    · intro y0 y1 y2 y3 y4 y5 y6 y7 y8 y9 y10 y11 y12 y13 y14 y15 y16
      unfold ropewaylaw21_PastSources.j0
      repeat' first
      | (with_reducible exact ih0 _ _ _ _ _ _ _ _ _ _ _ _ _ _ _ _ _)
      | (with_reducible exact past_Fits.mono _ _)
      | (with_reducible exact past_Source.mono _ _ _)
      | (with_reducible exact ropewaylaw21_pastAlive.mono _)
      | (with_reducible exact LeO.refl _)
      | (with_reducible exact LeO.none _)
      | (with_reducible refine LeO.ite ?_ ?_)
      | (with_reducible refine LeO.bind ?_ (fun _ => ?_))
      | exact ih0 _ _ _ _ _ _ _ _ _ _ _ _ _ _ _ _ _
      | exact past_Fits.mono _ _
      | exact past_Source.mono _ _ _
      | exact ropewaylaw21_pastAlive.mono _
      | exact LeO.none _
      | refine LeO.ite ?_ ?_
      | refine LeO.bind ?_ (fun _ => ?_)
theorem ropewaylaw21_PastSources.mono : ∀ a0 a1 a2 a3 a4 a5 a6 a7 a8 a9 a10 a11 a12 a13 a14 a15 a16 k, LeO (ropewaylaw21_PastSources.f k a0 a1 a2 a3 a4 a5 a6 a7 a8 a9 a10 a11 a12 a13 a14 a15 a16) (ropewaylaw21_PastSources.f (k + 1) a0 a1 a2 a3 a4 a5 a6 a7 a8 a9 a10 a11 a12 a13 a14 a15 a16) := by
  intro a0 a1 a2 a3 a4 a5 a6 a7 a8 a9 a10 a11 a12 a13 a14 a15 a16 k
  have ih0 := ropewaylaw21_PastSources.mono_l k
  unfold ropewaylaw21_PastSources.f
  repeat' first
      | (with_reducible exact ih0 _ _ _ _ _ _ _ _ _ _ _ _ _ _ _ _ _)
      | (with_reducible exact past_Fits.mono _ _)
      | (with_reducible exact past_Source.mono _ _ _)
      | (with_reducible exact ropewaylaw21_pastAlive.mono _)
      | (with_reducible exact LeO.refl _)
      | (with_reducible exact LeO.none _)
      | (with_reducible refine LeO.ite ?_ ?_)
      | (with_reducible refine LeO.bind ?_ (fun _ => ?_))
      | exact ih0 _ _ _ _ _ _ _ _ _ _ _ _ _ _ _ _ _
      | exact past_Fits.mono _ _
      | exact past_Source.mono _ _ _
      | exact ropewaylaw21_pastAlive.mono _
      | exact LeO.none _
      | refine LeO.ite ?_ ?_
      | refine LeO.bind ?_ (fun _ => ?_)
def ropewaylaw21_PastSources.T7 : Bool × List (List Nat × List Nat) := (true, [([], []), ([], []), ([0, 1], [0, 1]), ([2], [2]), ([], []), ([], []), ([4, 5], [4, 5]), ([6], [6]), ([], []), ([], []), ([8, 3, 0, 1, 2, 3, 8, 9], [3, 8]), ([9, 7, 10, 0, 1, 2, 3, 4, 5, 6, 7, 8, 9, 10], [7, 9])])
def ropewaylaw21_PastSources.B7 : List Nat := [0, 0, 3, 7, 0, 0, 48, 112, 0, 0, 783, 2047]
theorem ropewaylaw21_PastSources.tab7 : rtab .any (opsOf Try.f6 7) = ropewaylaw21_PastSources.T7 := by kernel_rfl
theorem ropewaylaw21_PastSources.bits7 : waitsOk ropewaylaw21_PastSources.T7.2 ropewaylaw21_PastSources.B7 = true := by kernel_rfl
def ropewaylaw21_PastSources.T8 : Bool × List (List Nat × List Nat) := (true, [([], []), ([0], [0]), ([1], [1]), ([2], [2]), ([3], [3]), ([4], [4]), ([5, 4], [4, 5]), ([6, 4], [4, 6]), ([4], [4]), ([8, 4], [4, 8]), ([9, 4], [4, 9]), ([7, 10, 4], [4, 7, 10]), ([4, 11], [4, 11]), ([12, 4], [12]), ([13], [13]), ([14, 13], [13, 14]), ([13], [13]), ([16, 13], [13, 16]), ([15, 17, 13], [13, 15, 17]), ([13, 18], [13, 18]), ([19, 13], [19]), ([20], [20]), ([21, 20], [20, 21]), ([22, 20], [20, 22]), ([23, 20, 20], [20, 23]), ([20], [20]), ([25, 20], [20, 25]), ([26, 20], [20, 26]), ([27, 20], [20, 27]), ([28, 24, 20], [20, 28]), ([24, 29, 20], [20, 24, 29]), ([20, 30], [20, 30]), ([31, 29], [31]), ([32], [32]), ([33, 32], [32, 33]), ([32], [32]), ([35, 32], [32, 35]), ([36, 32], [32, 36]), ([37, 32], [32, 37]), ([38, 32], [32, 38]), ([34, 39, 32], [32, 34, 39]), ([32, 40], [32, 40])])
def ropewaylaw21_PastSources.B8 : List Nat := [0, 1, 3, 7, 15, 31, 63, 127, 31, 287, 799, 2047, 4095, 8191, 16383, 32767, 16383, 81919, 262143, 524287, 1048575, 2097151, 4194303, 8388607, 16777215, 2097151, 35651583, 102760447, 236978175, 536870911, 1073741823, 2147483647, 4294967295, 8589934591, 17179869183, 8589934591, 42949672959, 111669149695, 249108103167, 523986010111, 1099511627775, 2199023255551]
theorem ropewaylaw21_PastSources.tab8 : rtab .any (opsOf Try.f6 8) = ropewaylaw21_PastSources.T8 := by kernel_rfl
theorem ropewaylaw21_PastSources.bits8 : waitsOk ropewaylaw21_PastSources.T8.2 ropewaylaw21_PastSources.B8 = true := by kernel_rfl
def ropewaylaw21_PastSources.T11 : Bool × List (List Nat × List Nat) := (true, [([], []), ([0], [0]), ([1], [1]), ([2, 1], [2]), ([3], [3]), ([3], [3]), ([4, 5, 3, 3], [3, 4, 5]), ([3], [3]), ([7, 3], [3, 7]), ([6, 8, 6, 3], [3, 6, 8]), ([9, 9, 3], [3, 9]), ([3, 10], [3, 10]), ([11, 10, 0, 1, 2, 3, 4, 5, 6, 7, 8, 9, 10, 11], [11])])
def ropewaylaw21_PastSources.B11 : List Nat := [0, 1, 3, 7, 15, 15, 63, 15, 143, 511, 1023, 2047, 4095]
theorem ropewaylaw21_PastSources.tab11 : rtab .any (opsOf Try.f6 11) = ropewaylaw21_PastSources.T11 := by kernel_rfl
theorem ropewaylaw21_PastSources.bits11 : waitsOk ropewaylaw21_PastSources.T11.2 ropewaylaw21_PastSources.B11 = true := by kernel_rfl
set_option maxHeartbeats 8000000 in
set_option maxRecDepth 100000 in
theorem ropewaylaw21_PastSources.calls (k : Nat) (A0 : Option Addr) (c0 : Nat) (l0 : List (S35)) (a1 : Int) (a2_0 : Int) (a2_1 : Int) (a2_2 : Int) (a2_3 : Int) (a2_4 : Int) (a2_5 : Nat) (a2_6 : Int) (a2_7 : Int) (a2_8 : Int) (a2_9 : Int) (a2_10 : Int) (a2_11 : Int) (a2_12 : Int) (a2_13 : Int) (a2_14 : Nat) (r : Bool) (w : World) (hr0 : Kd.C k35 w A0 l0.length l0) (hc0 : l0.length ≤ c0) (hr1_ : Aside0 (r = true)) (h : ropewaylaw21_PastSources.f k l0 a1 a2_0 a2_1 a2_2 a2_3 a2_4 a2_5 a2_6 a2_7 a2_8 a2_9 a2_10 a2_11 a2_12 a2_13 a2_14 = some r) :
    Calls Try.prog 6 #[.slice A0 l0.length c0, .int .i64 a1, .agg #[.int .i64 a2_0, .int .i64 a2_1, .int .i64 a2_2, .int .i64 a2_3, .int .i64 a2_4, .float .f64 a2_5, .int .i64 a2_6, .int .i64 a2_7, .int .i64 a2_8, .int .i64 a2_9, .int .i64 a2_10, .int .i64 a2_11, .int .i64 a2_12, .int .i64 a2_13, .float .f64 a2_14]] w fun e w' => e = .returned (.bool r) ∧ Below w.heap.size w w' := by
  have hu35 := Try.underlying35
  have HR0 := zM hr0
  have HC0 := zM hc0
  clear hr0 hc0
  have HB := zM (Below.refl w.heap.size w)
  have H : ((ropewaylaw21_pastAlive.f k).bind fun t332 => (if t332 = true then (if (l0.length : Int) > 30 then (some true) else ((past_Source.f k l0 a1).bind fun t333 => (if t333 ≥ 0 then (if 0 ≤ a1 then (if a1 < (l0.length : Int) then (if 0 ≤ t333 then (if t333 < (l0.length : Int) then (if ((rd_T35 l0 t333).f3.f0) = 1 then (if ((rd_T35 l0 t333).f3.f1) = ((rd_T35 l0 a1).f3.f1) then (if ((rd_T35 l0 t333).f1) > ((rd_T35 l0 a1).f2) then (ropewaylaw21_PastSources.j0 k l0 true a2_0 a2_1 a2_2 a2_3 a2_4 a2_5 a2_6 a2_7 a2_8 a2_9 a2_10 a2_11 a2_12 a2_13 a2_14) else ((ropewayref01_Bits.f ((rd_T35 l0 t333).f3.f2)).bind fun t338 => ((ropewayref01_Bits.f ((rd_T35 l0 a1).f4.f2.f2)).bind fun t339 => (if t338 = t339 then (ropewaylaw21_PastSources.j0 k l0 (((rd_T35 l0 t333).f0) != ((rd_T35 l0 a1).f4.f2.f1.f1)) a2_0 a2_1 a2_2 a2_3 a2_4 a2_5 a2_6 a2_7 a2_8 a2_9 a2_10 a2_11 a2_12 a2_13 a2_14) else (ropewaylaw21_PastSources.j0 k l0 true a2_0 a2_1 a2_2 a2_3 a2_4 a2_5 a2_6 a2_7 a2_8 a2_9 a2_10 a2_11 a2_12 a2_13 a2_14))))) else (ropewaylaw21_PastSources.j0 k l0 true a2_0 a2_1 a2_2 a2_3 a2_4 a2_5 a2_6 a2_7 a2_8 a2_9 a2_10 a2_11 a2_12 a2_13 a2_14)) else (ropewaylaw21_PastSources.j0 k l0 true a2_0 a2_1 a2_2 a2_3 a2_4 a2_5 a2_6 a2_7 a2_8 a2_9 a2_10 a2_11 a2_12 a2_13 a2_14)) else (none)) else (none)) else (none)) else (none)) else ((past_Fits.f k l0).bind fun t354 => (if t354 = true then ((some (([] : List (S35)) : List (S35))).bind fun y355 => (if y355.length + l0.length < 1172812402961 then ((some (y355 ++ l0 : List (S35))).bind fun y358 => ((some (([(⟨a2_0, a2_1, (-1), (⟨a2_3, a2_4, a2_5, (⟨a2_6, a2_7⟩ : S24)⟩ : S26), (⟨a2_8, (⟨a2_9, a2_10⟩ : S24), (⟨a2_11, (⟨a2_12, a2_13⟩ : S29), a2_14⟩ : S31)⟩ : S33)⟩ : S35)] : List (S35)) : List (S35))).bind fun y361 => (if y358.length + y361.length < 1172812402961 then ((past_Fits.f k (y358 ++ y361)).bind fun t367 => (some t367)) else (none)))) else (none))) else (some true)))))) else (some false))) = some r := h
  clear h
  replace H := Option.bind_eq_some_iff.mp H
  obtain ⟨t332, A40, H⟩ := H
  replace H : (if t332 = true then (if (l0.length : Int) > 30 then (some true) else ((past_Source.f k l0 a1).bind fun t333 => (if t333 ≥ 0 then (if 0 ≤ a1 then (if a1 < (l0.length : Int) then (if 0 ≤ t333 then (if t333 < (l0.length : Int) then (if ((rd_T35 l0 t333).f3.f0) = 1 then (if ((rd_T35 l0 t333).f3.f1) = ((rd_T35 l0 a1).f3.f1) then (if ((rd_T35 l0 t333).f1) > ((rd_T35 l0 a1).f2) then (ropewaylaw21_PastSources.j0 k l0 true a2_0 a2_1 a2_2 a2_3 a2_4 a2_5 a2_6 a2_7 a2_8 a2_9 a2_10 a2_11 a2_12 a2_13 a2_14) else ((ropewayref01_Bits.f ((rd_T35 l0 t333).f3.f2)).bind fun t338 => ((ropewayref01_Bits.f ((rd_T35 l0 a1).f4.f2.f2)).bind fun t339 => (if t338 = t339 then (ropewaylaw21_PastSources.j0 k l0 (((rd_T35 l0 t333).f0) != ((rd_T35 l0 a1).f4.f2.f1.f1)) a2_0 a2_1 a2_2 a2_3 a2_4 a2_5 a2_6 a2_7 a2_8 a2_9 a2_10 a2_11 a2_12 a2_13 a2_14) else (ropewaylaw21_PastSources.j0 k l0 true a2_0 a2_1 a2_2 a2_3 a2_4 a2_5 a2_6 a2_7 a2_8 a2_9 a2_10 a2_11 a2_12 a2_13 a2_14))))) else (ropewaylaw21_PastSources.j0 k l0 true a2_0 a2_1 a2_2 a2_3 a2_4 a2_5 a2_6 a2_7 a2_8 a2_9 a2_10 a2_11 a2_12 a2_13 a2_14)) else (ropewaylaw21_PastSources.j0 k l0 true a2_0 a2_1 a2_2 a2_3 a2_4 a2_5 a2_6 a2_7 a2_8 a2_9 a2_10 a2_11 a2_12 a2_13 a2_14)) else (none)) else (none)) else (none)) else (none)) else ((past_Fits.f k l0).bind fun t354 => (if t354 = true then ((some (([] : List (S35)) : List (S35))).bind fun y355 => (if y355.length + l0.length < 1172812402961 then ((some (y355 ++ l0 : List (S35))).bind fun y358 => ((some (([(⟨a2_0, a2_1, (-1), (⟨a2_3, a2_4, a2_5, (⟨a2_6, a2_7⟩ : S24)⟩ : S26), (⟨a2_8, (⟨a2_9, a2_10⟩ : S24), (⟨a2_11, (⟨a2_12, a2_13⟩ : S29), a2_14⟩ : S31)⟩ : S33)⟩ : S35)] : List (S35)) : List (S35))).bind fun y361 => (if y358.length + y361.length < 1172812402961 then ((past_Fits.f k (y358 ++ y361)).bind fun t367 => (some t367)) else (none)))) else (none))) else (some true)))))) else (some false)) = some r := H
  have A4 := zM A40
  clear A40
  by_cases c5 : t332 = true
  rotate_left
  · replace c5 := Bool.eq_false_iff.mpr c5
    subst c5
    have H1 : (some false) = some r := by rw [if_neg (show ¬ (false = true) by decide)] at H; exact H
    clear H
    have H := H1
    clear H1
    exact absurd (Option.some.inj H) (by rw [hr1_.out]; decide)
  subst c5
  have H1 : (if (l0.length : Int) > 30 then (some true) else ((past_Source.f k l0 a1).bind fun t333 => (if t333 ≥ 0 then (if 0 ≤ a1 then (if a1 < (l0.length : Int) then (if 0 ≤ t333 then (if t333 < (l0.length : Int) then (if ((rd_T35 l0 t333).f3.f0) = 1 then (if ((rd_T35 l0 t333).f3.f1) = ((rd_T35 l0 a1).f3.f1) then (if ((rd_T35 l0 t333).f1) > ((rd_T35 l0 a1).f2) then (ropewaylaw21_PastSources.j0 k l0 true a2_0 a2_1 a2_2 a2_3 a2_4 a2_5 a2_6 a2_7 a2_8 a2_9 a2_10 a2_11 a2_12 a2_13 a2_14) else ((ropewayref01_Bits.f ((rd_T35 l0 t333).f3.f2)).bind fun t338 => ((ropewayref01_Bits.f ((rd_T35 l0 a1).f4.f2.f2)).bind fun t339 => (if t338 = t339 then (ropewaylaw21_PastSources.j0 k l0 (((rd_T35 l0 t333).f0) != ((rd_T35 l0 a1).f4.f2.f1.f1)) a2_0 a2_1 a2_2 a2_3 a2_4 a2_5 a2_6 a2_7 a2_8 a2_9 a2_10 a2_11 a2_12 a2_13 a2_14) else (ropewaylaw21_PastSources.j0 k l0 true a2_0 a2_1 a2_2 a2_3 a2_4 a2_5 a2_6 a2_7 a2_8 a2_9 a2_10 a2_11 a2_12 a2_13 a2_14))))) else (ropewaylaw21_PastSources.j0 k l0 true a2_0 a2_1 a2_2 a2_3 a2_4 a2_5 a2_6 a2_7 a2_8 a2_9 a2_10 a2_11 a2_12 a2_13 a2_14)) else (ropewaylaw21_PastSources.j0 k l0 true a2_0 a2_1 a2_2 a2_3 a2_4 a2_5 a2_6 a2_7 a2_8 a2_9 a2_10 a2_11 a2_12 a2_13 a2_14)) else (none)) else (none)) else (none)) else (none)) else ((past_Fits.f k l0).bind fun t354 => (if t354 = true then ((some (([] : List (S35)) : List (S35))).bind fun y355 => (if y355.length + l0.length < 1172812402961 then ((some (y355 ++ l0 : List (S35))).bind fun y358 => ((some (([(⟨a2_0, a2_1, (-1), (⟨a2_3, a2_4, a2_5, (⟨a2_6, a2_7⟩ : S24)⟩ : S26), (⟨a2_8, (⟨a2_9, a2_10⟩ : S24), (⟨a2_11, (⟨a2_12, a2_13⟩ : S29), a2_14⟩ : S31)⟩ : S33)⟩ : S35)] : List (S35)) : List (S35))).bind fun y361 => (if y358.length + y361.length < 1172812402961 then ((past_Fits.f k (y358 ++ y361)).bind fun t367 => (some t367)) else (none)))) else (none))) else (some true)))))) = some r := by rw [if_pos rfl] at H; exact H
  clear H
  have H := H1
  clear H1
  by_cases c6 : (l0.length : Int) > 30
  · rw [if_pos c6] at H
    have c6b0 : decide (30 < (l0.length : Int)) = true := decide_eq_true c6
    have c6b1 : decide (30 < l0.length) = true := decide_eq_true (by omega)
    clear c6
    obtain rfl := Option.some.inj H
    go_enter Try.func6, Try.ntmps6
    go_wp2_with (first | ((with_reducible refine gld_ (t := 35) ?_); (try (refine gate_guard (by rfl) ?_; dsimp only)); first | refine wl15_ rfl 35 _ rfl rfl Try.underlying35 rfl (by kernel_rfl) ?_ | refine wlr15_ rfl 35 _ rfl rfl Try.underlying35 rfl (by kernel_rfl) ?_) | ((with_reducible refine gst_ (t := 35) ?_); refine ws15_ rfl 35 _ _ rfl rfl rfl (by kernel_rfl) ?_) | ((with_reducible refine gate_dst (N := 5) rfl ?_); (try (refine gate_guard (by rfl) ?_; dsimp only)); refine box_event ?hg (N := 5) ?hd (cs := #[.int .i64 a2_0, .int .i64 a2_1, .int .i64 a2_2, .int .i64 a2_3, .int .i64 a2_4, .float .f64 a2_5, .int .i64 a2_6, .int .i64 a2_7, .int .i64 a2_8, .int .i64 a2_9, .int .i64 a2_10, .int .i64 a2_11, .int .i64 a2_12, .int .i64 a2_13, .float .f64 a2_14]) (t := 35) ?hr ?_; (case hd => rfl); (case hg => rfl); (case hr => first | (go_simp; done) | (go_simp; rfl)); intro gb331 hg w7 hbox hb; have BK331 := zM (hbox); have GW331 := zM (bs_ hg); have GE331 := zM (bs_ hg); replace HB := zM (zB bel_ hb); clear hb hbox hg) | ((with_reducible refine gate_callee (f := 7) rfl ?_); refine goL_ (some 10) Try.func7 #[] ?_; (with_reducible refine (ropewaylaw21_pastAlive.calls k  true _ A4.out).mono ?_); rintro e w8 ⟨rfl, hb⟩; refine ⟨_, rfl, ?_⟩; replace BK331 := zM (bb_ BK331 hb); replace HB := zM (zB bel_ hb); (try clear hb); (try clear hb2); (try clear hk); (try clear hi)))
    go_ret
    exact ⟨by first | rfl | (simp [errW_none, errW_some] <;> rfl) | (simp [*, errW_none, errW_some] <;> rfl), bel_⟩
  rw [if_neg c6] at H
  have c6b0 : decide (30 < (l0.length : Int)) = false := decide_eq_false c6
  have c6b1 : decide (30 < l0.length) = false := decide_eq_false (by omega)
  clear c6
  replace H := Option.bind_eq_some_iff.mp H
  obtain ⟨t333, A90, H⟩ := H
  replace H : (if t333 ≥ 0 then (if 0 ≤ a1 then (if a1 < (l0.length : Int) then (if 0 ≤ t333 then (if t333 < (l0.length : Int) then (if ((rd_T35 l0 t333).f3.f0) = 1 then (if ((rd_T35 l0 t333).f3.f1) = ((rd_T35 l0 a1).f3.f1) then (if ((rd_T35 l0 t333).f1) > ((rd_T35 l0 a1).f2) then (ropewaylaw21_PastSources.j0 k l0 true a2_0 a2_1 a2_2 a2_3 a2_4 a2_5 a2_6 a2_7 a2_8 a2_9 a2_10 a2_11 a2_12 a2_13 a2_14) else ((ropewayref01_Bits.f ((rd_T35 l0 t333).f3.f2)).bind fun t338 => ((ropewayref01_Bits.f ((rd_T35 l0 a1).f4.f2.f2)).bind fun t339 => (if t338 = t339 then (ropewaylaw21_PastSources.j0 k l0 (((rd_T35 l0 t333).f0) != ((rd_T35 l0 a1).f4.f2.f1.f1)) a2_0 a2_1 a2_2 a2_3 a2_4 a2_5 a2_6 a2_7 a2_8 a2_9 a2_10 a2_11 a2_12 a2_13 a2_14) else (ropewaylaw21_PastSources.j0 k l0 true a2_0 a2_1 a2_2 a2_3 a2_4 a2_5 a2_6 a2_7 a2_8 a2_9 a2_10 a2_11 a2_12 a2_13 a2_14))))) else (ropewaylaw21_PastSources.j0 k l0 true a2_0 a2_1 a2_2 a2_3 a2_4 a2_5 a2_6 a2_7 a2_8 a2_9 a2_10 a2_11 a2_12 a2_13 a2_14)) else (ropewaylaw21_PastSources.j0 k l0 true a2_0 a2_1 a2_2 a2_3 a2_4 a2_5 a2_6 a2_7 a2_8 a2_9 a2_10 a2_11 a2_12 a2_13 a2_14)) else (none)) else (none)) else (none)) else (none)) else ((past_Fits.f k l0).bind fun t354 => (if t354 = true then ((some (([] : List (S35)) : List (S35))).bind fun y355 => (if y355.length + l0.length < 1172812402961 then ((some (y355 ++ l0 : List (S35))).bind fun y358 => ((some (([(⟨a2_0, a2_1, (-1), (⟨a2_3, a2_4, a2_5, (⟨a2_6, a2_7⟩ : S24)⟩ : S26), (⟨a2_8, (⟨a2_9, a2_10⟩ : S24), (⟨a2_11, (⟨a2_12, a2_13⟩ : S29), a2_14⟩ : S31)⟩ : S33)⟩ : S35)] : List (S35)) : List (S35))).bind fun y361 => (if y358.length + y361.length < 1172812402961 then ((past_Fits.f k (y358 ++ y361)).bind fun t367 => (some t367)) else (none)))) else (none))) else (some true)))) = some r := H
  have A9 := zM A90
  clear A90
  by_cases c10 : t333 ≥ 0
  rotate_left
  · rw [if_neg c10] at H
    have c10b0 : decide (0 ≤ t333) = false := decide_eq_false c10
    clear c10
    replace H := Option.bind_eq_some_iff.mp H
    obtain ⟨t354, A890, H⟩ := H
    replace H : (if t354 = true then ((some (([] : List (S35)) : List (S35))).bind fun y355 => (if y355.length + l0.length < 1172812402961 then ((some (y355 ++ l0 : List (S35))).bind fun y358 => ((some (([(⟨a2_0, a2_1, (-1), (⟨a2_3, a2_4, a2_5, (⟨a2_6, a2_7⟩ : S24)⟩ : S26), (⟨a2_8, (⟨a2_9, a2_10⟩ : S24), (⟨a2_11, (⟨a2_12, a2_13⟩ : S29), a2_14⟩ : S31)⟩ : S33)⟩ : S35)] : List (S35)) : List (S35))).bind fun y361 => (if y358.length + y361.length < 1172812402961 then ((past_Fits.f k (y358 ++ y361)).bind fun t367 => (some t367)) else (none)))) else (none))) else (some true)) = some r := H
    have A89 := zM A890
    clear A890
    by_cases c90 : t354 = true
    rotate_left
    · replace c90 := Bool.eq_false_iff.mpr c90
      subst c90
      have H1 : (some true) = some r := by rw [if_neg (show ¬ (false = true) by decide)] at H; exact H
      clear H
      have H := H1
      clear H1
      obtain rfl := Option.some.inj H
      go_enter Try.func6, Try.ntmps6
      try go_wp2_with (first | ((with_reducible refine gld_ (t := 35) ?_); (try (refine gate_guard (by rfl) ?_; dsimp only)); first | refine wl15_ rfl 35 _ rfl rfl Try.underlying35 rfl (by kernel_rfl) ?_ | refine wlr15_ rfl 35 _ rfl rfl Try.underlying35 rfl (by kernel_rfl) ?_) | ((with_reducible refine gst_ (t := 35) ?_); refine ws15_ rfl 35 _ _ rfl rfl rfl (by kernel_rfl) ?_) | ((with_reducible refine gate_dst (N := 5) rfl ?_); (try (refine gate_guard (by rfl) ?_; dsimp only)); refine box_event ?hg (N := 5) ?hd (cs := #[.int .i64 a2_0, .int .i64 a2_1, .int .i64 a2_2, .int .i64 a2_3, .int .i64 a2_4, .float .f64 a2_5, .int .i64 a2_6, .int .i64 a2_7, .int .i64 a2_8, .int .i64 a2_9, .int .i64 a2_10, .int .i64 a2_11, .int .i64 a2_12, .int .i64 a2_13, .float .f64 a2_14]) (t := 35) ?hr ?_; (case hd => rfl); (case hg => rfl); (case hr => first | (go_simp; done) | (go_simp; rfl)); intro gb331 hg w111 hbox hb; have BK331 := zM (hbox); have GW331 := zM (bs_ hg); have GE331 := zM (bs_ hg); replace HB := zM (zB bel_ hb); clear hb hbox hg) | ((with_reducible refine gate_callee (f := 7) rfl ?_); refine goL_ (some 10) Try.func7 #[] ?_; (with_reducible refine (ropewaylaw21_pastAlive.calls k  true _ A4.out).mono ?_); rintro e w112 ⟨rfl, hb⟩; refine ⟨_, rfl, ?_⟩; replace BK331 := zM (bb_ BK331 hb); replace HB := zM (zB bel_ hb); (try clear hb); (try clear hb2); (try clear hk); (try clear hi)) | ((with_reducible refine gate_callee (f := 13) rfl ?_); refine goL_ (some 17) Try.func13 #[.slice A0 l0.length c0, .int .i64 a1] ?_; (with_reducible refine (past_Source.calls k _ _ l0 a1 t333 _ ?side1 ?side2 A9.out).mono ?_); (case side1 => repeat (first | exact (Kd.C_below HR0.out HB.out) | (with_reducible refine Kd.C_alloc ?_ _) | (with_reducible refine Kd.C_drewN ?_ _) | (with_reducible refine Kd.C_drew ?_))); (case side2 => exact HC0.out); rintro e w113 ⟨rfl, hb⟩; refine ⟨_, rfl, ?_⟩; replace BK331 := zM (bb_ BK331 hb); replace HB := zM (zB bel_ hb); (try clear hb); (try clear hb2); (try clear hk); (try clear hi); obtain ⟨hcz114_0, hcz114_1, hcz114_2, hcz114_3, hcz114_4, hcz114_5, hcz114_6, hcz114_7, hcz114_8, hcz114_9, hcz114_10, hcz114_11, hcz114_12, hcz114_13, hcz114_14⟩ := r15_ BK331.out; obtain ⟨hfz114_0, hfz114_1, hfz114_2, hfz114_3, hfz114_4, hfz114_5, hfz114_6, hfz114_7, hfz114_8, hfz114_9, hfz114_10, hfz114_11, hfz114_12, hfz114_13, hfz114_14⟩ := f15_ BK331.out))
      replace BK331 : Aside0 ((w113.setCell ⟨gb331, 2, none⟩ (.int .i64 (-1))).heap[gb331]? = some (.cells #[.int .i64 a2_0, .int .i64 a2_1, .int .i64 (-1), .int .i64 a2_3, .int .i64 a2_4, .float .f64 a2_5, .int .i64 a2_6, .int .i64 a2_7, .int .i64 a2_8, .int .i64 a2_9, .int .i64 a2_10, .int .i64 a2_11, .int .i64 a2_12, .int .i64 a2_13, .float .f64 a2_14] 35 (0, 0))) := ⟨by (with_reducible repeat (first | refine zN ?_ _ | refine zD ?_ | refine zA ?_ _)); refine blk_put (cs := #[.int .i64 a2_0, .int .i64 a2_1, .int .i64 a2_2, .int .i64 a2_3, .int .i64 a2_4, .float .f64 a2_5, .int .i64 a2_6, .int .i64 a2_7, .int .i64 a2_8, .int .i64 a2_9, .int .i64 a2_10, .int .i64 a2_11, .int .i64 a2_12, .int .i64 a2_13, .float .f64 a2_14]) ?_ 2 _ rfl; (with_reducible repeat (first | refine zN ?_ _ | refine zD ?_ | refine zA ?_ _)); exact BK331.out⟩
      replace HB : Aside0 (Below w.heap.size w (w113.setCell ⟨gb331, 2, none⟩ (.int .i64 (-1)))) := ⟨bel_⟩
      generalize (w113.setCell ⟨gb331, 2, none⟩ (.int .i64 (-1))) = w115 at BK331 HB ⊢
      replace BK331 := zM (zD BK331.out)
      replace HB := zM (below_drew1 HB.out)
      refine start_ (n := 13) (S := fun w' => True) (ds := []) #[F_, F_, F_, F_, F_, F_, F_, F_, F_, F_, F_, F_, F_] (by kernel_rfl) rfl rfl trivial (fun hHeld => ?_); refine with_tabW ropewaylaw21_PastSources.tab11 ropewaylaw21_PastSources.bits11 (fun HT_ HW_ => ?_)
      generalize w115.drew = w116 at BK331 HB hHeld ⊢
      refine pure_ (i := 0) (N := some 71) (v := ?_) (a' := ?_) #[T_, F_, F_, F_, F_, F_, F_, F_, F_, F_, F_, F_, F_] rfl rfl (any_of HT_.out (by kernel_rfl)) (fun _ _ _ h => h) (Or.inl ⟨by rfl, ?_⟩) ?_ ?_
      rotate_left
      · intro w'
        go_simp
        with_reducible rfl
      rotate_left
      · simp only [Act.put, zS, zZ, zC, i64_w, i32_w]
        rfl
      refine one_ (i := 1) (N := some 72) #[T_, T_, F_, F_, F_, F_, F_, F_, F_, F_, F_, F_, F_] rfl rfl (one_of HT_.out (by kernel_rfl)) (by decide) (fun K hK => ?_)
      refine goes_ Try.func8 (by kernel_rfl) rfl #[.slice A0 l0.length c0] (by rfl) rfl rfl (by (try simp only [List.map_toArray, List.map_cons, List.map_nil]); first | done | rfl | (simp only [List.length_drop, List.length_take]; rfl)) ?_
      with_reducible refine (past_Fits.calls k _ _ l0 false _ ?side1 ?side2 A89.out).mono ?_
      (case side1 => repeat (first | exact (Kd.C_below HR0.out HB.out) | (with_reducible refine Kd.C_alloc ?_ _) | (with_reducible refine Kd.C_drewN ?_ _) | (with_reducible refine Kd.C_drew ?_)))
      (case side2 => exact HC0.out)
      rintro e w117 ⟨rfl, hb⟩
      refine ⟨_, rfl, ?_⟩
      replace BK331 := zM (bb_ BK331 hb)
      replace HB := zM (zB bel_ hb)
      (try clear hb)
      (try clear hb2)
      (try clear hk)
      (try clear hi)
      refine hK.out _ _ trivial (fun hHeld => ?_)
      clear hK K
      refine norm_ (a' := ?_) ?_ ?_
      rotate_left
      · show Act.put _ (some 72) _ = _
        simp only [Act.put, zS, zZ, zC, i64_w, i32_w]
        rfl
      refine pure_ (i := 2) (N := some 73) (v := ?_) (a' := ?_) #[T_, T_, T_, F_, F_, F_, F_, F_, F_, F_, F_, F_, F_] rfl rfl (any_of HT_.out (by kernel_rfl)) (fun _ _ _ h => h) (Or.inl ⟨by rfl, ?_⟩) ?_ ?_
      rotate_left
      · intro w'
        go_simp
        with_reducible rfl
      rotate_left
      · simp only [Act.put, zS, zZ, zC, i64_w, i32_w]
        rfl
      refine pure_ (i := 3) (N := some 74) (v := ?_) (a' := ?_) #[T_, T_, T_, T_, F_, F_, F_, F_, F_, F_, F_, F_, F_] rfl rfl (any_of HT_.out (by kernel_rfl)) (fun _ _ _ h => h) (Or.inl ⟨by rfl, ?_⟩) ?_ ?_
      rotate_left
      · intro w'
        go_simp
        with_reducible rfl
      rotate_left
      · simp only [Act.put, zS, zZ, zC, i64_w, i32_w]
        rfl
      refine pure_ (i := 4) (N := some 75) (v := undef) (a' := ?_) #[T_, T_, T_, T_, T_, F_, F_, F_, F_, F_, F_, F_, F_] rfl rfl (any_of HT_.out (by kernel_rfl)) (fun _ _ _ h => h) (Or.inr ⟨by rfl, rfl⟩) ?_ ?_
      rotate_left
      · simp only [Act.put, zS, zZ, zC, i64_w, i32_w]
        rfl
      refine pure_ (i := 5) (N := some 76) (v := undef) (a' := ?_) #[T_, T_, T_, T_, T_, T_, F_, F_, F_, F_, F_, F_, F_] rfl rfl (any_of HT_.out (by kernel_rfl)) (fun _ _ _ h => h) (Or.inr ⟨by rfl, rfl⟩) ?_ ?_
      rotate_left
      · simp only [Act.put, zS, zZ, zC, i64_w, i32_w]
        rfl
      refine pure_ (i := 6) (N := some 77) (v := undef) (a' := ?_) #[T_, T_, T_, T_, T_, T_, T_, F_, F_, F_, F_, F_, F_] rfl rfl (any_of HT_.out (by kernel_rfl)) (fun _ _ _ h => h) (Or.inr ⟨by rfl, rfl⟩) ?_ ?_
      rotate_left
      · simp only [Act.put, zS, zZ, zC, i64_w, i32_w]
        rfl
      refine pure_ (i := 7) (N := some 78) (v := undef) (a' := ?_) #[T_, T_, T_, T_, T_, T_, T_, T_, F_, F_, F_, F_, F_] rfl rfl (any_of HT_.out (by kernel_rfl)) (fun _ _ _ h => h) (Or.inr ⟨by rfl, rfl⟩) ?_ ?_
      rotate_left
      · simp only [Act.put, zS, zZ, zC, i64_w, i32_w]
        rfl
      refine pure_ (i := 8) (N := some 79) (v := undef) (a' := ?_) #[T_, T_, T_, T_, T_, T_, T_, T_, T_, F_, F_, F_, F_] rfl rfl (any_of HT_.out (by kernel_rfl)) (fun _ _ _ h => h) (Or.inr ⟨by rfl, rfl⟩) ?_ ?_
      rotate_left
      · simp only [Act.put, zS, zZ, zC, i64_w, i32_w]
        rfl
      refine pure_ (i := 9) (N := some 80) (v := undef) (a' := ?_) #[T_, T_, T_, T_, T_, T_, T_, T_, T_, T_, F_, F_, F_] rfl rfl (any_of HT_.out (by kernel_rfl)) (fun _ _ _ h => h) (Or.inr ⟨by rfl, rfl⟩) ?_ ?_
      rotate_left
      · simp only [Act.put, zS, zZ, zC, i64_w, i32_w]
        rfl
      refine pure_ (i := 10) (N := some 81) (v := undef) (a' := ?_) #[T_, T_, T_, T_, T_, T_, T_, T_, T_, T_, T_, F_, F_] rfl rfl (any_of HT_.out (by kernel_rfl)) (fun _ _ _ h => h) (Or.inr ⟨by rfl, rfl⟩) ?_ ?_
      rotate_left
      · simp only [Act.put, zS, zZ, zC, i64_w, i32_w]
        rfl
      refine pure_ (i := 11) (N := some 82) (v := ?_) (a' := ?_) #[T_, T_, T_, T_, T_, T_, T_, T_, T_, T_, T_, T_, F_] rfl rfl (any_of HT_.out (by kernel_rfl)) (fun _ _ _ h => h) (Or.inl ⟨by rfl, ?_⟩) ?_ ?_
      rotate_left
      · intro w'
        go_simp
        with_reducible rfl
      rotate_left
      · simp only [Act.put, zS, zZ, zC, i64_w, i32_w]
        rfl
      refine pure_ (i := 12) (N := some 6) (v := ?_) (a' := ?_) #[T_, T_, T_, T_, T_, T_, T_, T_, T_, T_, T_, T_, T_] rfl rfl (any_of HT_.out (by kernel_rfl)) (fun _ _ _ h => h) (Or.inl ⟨by rfl, ?_⟩) ?_ ?_
      rotate_left
      · intro w'
        go_simp
        with_reducible rfl
      rotate_left
      · simp only [Act.put, zS, zZ, zC, i64_w, i32_w]
        rfl
      refine done_ (done_of HT_.out (by kernel_rfl)) ?_
      try go_wp2
      go_ret
      exact ⟨by first | rfl | (simp [errW_none, errW_some] <;> rfl) | (simp [*, errW_none, errW_some] <;> rfl), bel_⟩
    subst c90
    have H1 : ((some (([] : List (S35)) : List (S35))).bind fun y355 => (if y355.length + l0.length < 1172812402961 then ((some (y355 ++ l0 : List (S35))).bind fun y358 => ((some (([(⟨a2_0, a2_1, (-1), (⟨a2_3, a2_4, a2_5, (⟨a2_6, a2_7⟩ : S24)⟩ : S26), (⟨a2_8, (⟨a2_9, a2_10⟩ : S24), (⟨a2_11, (⟨a2_12, a2_13⟩ : S29), a2_14⟩ : S31)⟩ : S33)⟩ : S35)] : List (S35)) : List (S35))).bind fun y361 => (if y358.length + y361.length < 1172812402961 then ((past_Fits.f k (y358 ++ y361)).bind fun t367 => (some t367)) else (none)))) else (none))) = some r := by rw [if_pos rfl] at H; exact H
    clear H
    have H := H1
    clear H1
    obtain ⟨y355, hy355⟩ : ∃ y_ : List (S35), y_ = (([] : List (S35))) := ⟨_, rfl⟩
    replace H : (if y355.length + l0.length < 1172812402961 then ((some (y355 ++ l0 : List (S35))).bind fun y358 => ((some (([(⟨a2_0, a2_1, (-1), (⟨a2_3, a2_4, a2_5, (⟨a2_6, a2_7⟩ : S24)⟩ : S26), (⟨a2_8, (⟨a2_9, a2_10⟩ : S24), (⟨a2_11, (⟨a2_12, a2_13⟩ : S29), a2_14⟩ : S31)⟩ : S33)⟩ : S35)] : List (S35)) : List (S35))).bind fun y361 => (if y358.length + y361.length < 1172812402961 then ((past_Fits.f k (y358 ++ y361)).bind fun t367 => (some t367)) else (none)))) else (none)) = some r := by first | (rw [hy355]; with_reducible exact H) | (have H2_ := (Option.bind_some _ _).symm.trans H; rw [hy355]; with_reducible exact H2_) | (have H2_ := (Option.bind_some _ _).symm.trans H; with_reducible exact H2_) | with_reducible exact H | (rw [hy355]; exact H) | exact H
    have Ny355 := zM hy355
    clear hy355
    by_cases c91 : y355.length + l0.length < 1172812402961
    rotate_left
    · rw [if_neg c91] at H
      exact absurd H (by simp)
    rw [if_pos c91] at H
    have LMc91 := zM c91
    clear c91
    obtain ⟨y358, hy358⟩ : ∃ y_ : List (S35), y_ = (y355 ++ l0) := ⟨_, rfl⟩
    replace H : ((some (([(⟨a2_0, a2_1, (-1), (⟨a2_3, a2_4, a2_5, (⟨a2_6, a2_7⟩ : S24)⟩ : S26), (⟨a2_8, (⟨a2_9, a2_10⟩ : S24), (⟨a2_11, (⟨a2_12, a2_13⟩ : S29), a2_14⟩ : S31)⟩ : S33)⟩ : S35)] : List (S35)) : List (S35))).bind fun y361 => (if y358.length + y361.length < 1172812402961 then ((past_Fits.f k (y358 ++ y361)).bind fun t367 => (some t367)) else (none))) = some r := by first | (rw [hy358]; with_reducible exact H) | (have H2_ := (Option.bind_some _ _).symm.trans H; rw [hy358]; with_reducible exact H2_) | (have H2_ := (Option.bind_some _ _).symm.trans H; with_reducible exact H2_) | with_reducible exact H | (rw [hy358]; exact H) | exact H
    have Ny358 := zM hy358
    clear hy358
    obtain ⟨y361, hy361⟩ : ∃ y_ : List (S35), y_ = (([(⟨a2_0, a2_1, (-1), (⟨a2_3, a2_4, a2_5, (⟨a2_6, a2_7⟩ : S24)⟩ : S26), (⟨a2_8, (⟨a2_9, a2_10⟩ : S24), (⟨a2_11, (⟨a2_12, a2_13⟩ : S29), a2_14⟩ : S31)⟩ : S33)⟩ : S35)] : List (S35))) := ⟨_, rfl⟩
    replace H : (if y358.length + y361.length < 1172812402961 then ((past_Fits.f k (y358 ++ y361)).bind fun t367 => (some t367)) else (none)) = some r := by first | (rw [hy361]; with_reducible exact H) | (have H2_ := (Option.bind_some _ _).symm.trans H; rw [hy361]; with_reducible exact H2_) | (have H2_ := (Option.bind_some _ _).symm.trans H; with_reducible exact H2_) | with_reducible exact H | (rw [hy361]; exact H) | exact H
    have Ny361 := zM hy361
    clear hy361
    by_cases c92 : y358.length + y361.length < 1172812402961
    rotate_left
    · rw [if_neg c92] at H
      exact absurd H (by simp)
    rw [if_pos c92] at H
    have LMc92 := zM c92
    clear c92
    obtain ⟨y364, hy364⟩ : ∃ y_ : List (S35), y_ = (y358 ++ y361) := ⟨_, rfl⟩
    replace H : ((past_Fits.f k y364).bind fun t367 => (some t367)) = some r := by first | (rw [hy364]; with_reducible exact H) | (have H2_ := (Option.bind_some _ _).symm.trans H; rw [hy364]; with_reducible exact H2_) | (have H2_ := (Option.bind_some _ _).symm.trans H; with_reducible exact H2_) | with_reducible exact H | (rw [hy364]; exact H) | exact H
    have Ny364 := zM hy364
    clear hy364
    replace H := Option.bind_eq_some_iff.mp H
    obtain ⟨t367, A930, H⟩ := H
    replace H : (some t367) = some r := H
    have A93 := zM A930
    clear A930
    obtain rfl := Option.some.inj H
    go_enter Try.func6, Try.ntmps6
    try go_wp2_with (first | ((with_reducible refine gld_ (t := 35) ?_); (try (refine gate_guard (by rfl) ?_; dsimp only)); first | refine wl15_ rfl 35 _ rfl rfl Try.underlying35 rfl (by kernel_rfl) ?_ | refine wlr15_ rfl 35 _ rfl rfl Try.underlying35 rfl (by kernel_rfl) ?_) | ((with_reducible refine gst_ (t := 35) ?_); refine ws15_ rfl 35 _ _ rfl rfl rfl (by kernel_rfl) ?_) | ((with_reducible refine gate_dst (N := 5) rfl ?_); (try (refine gate_guard (by rfl) ?_; dsimp only)); refine box_event ?hg (N := 5) ?hd (cs := #[.int .i64 a2_0, .int .i64 a2_1, .int .i64 a2_2, .int .i64 a2_3, .int .i64 a2_4, .float .f64 a2_5, .int .i64 a2_6, .int .i64 a2_7, .int .i64 a2_8, .int .i64 a2_9, .int .i64 a2_10, .int .i64 a2_11, .int .i64 a2_12, .int .i64 a2_13, .float .f64 a2_14]) (t := 35) ?hr ?_; (case hd => rfl); (case hg => rfl); (case hr => first | (go_simp; done) | (go_simp; rfl)); intro gb331 hg w94 hbox hb; have BK331 := zM (hbox); have GW331 := zM (bs_ hg); have GE331 := zM (bs_ hg); replace HB := zM (zB bel_ hb); clear hb hbox hg) | ((with_reducible refine gate_callee (f := 7) rfl ?_); refine goL_ (some 10) Try.func7 #[] ?_; (with_reducible refine (ropewaylaw21_pastAlive.calls k  true _ A4.out).mono ?_); rintro e w95 ⟨rfl, hb⟩; refine ⟨_, rfl, ?_⟩; replace BK331 := zM (bb_ BK331 hb); replace HB := zM (zB bel_ hb); (try clear hb); (try clear hb2); (try clear hk); (try clear hi)) | ((with_reducible refine gate_callee (f := 13) rfl ?_); refine goL_ (some 17) Try.func13 #[.slice A0 l0.length c0, .int .i64 a1] ?_; (with_reducible refine (past_Source.calls k _ _ l0 a1 t333 _ ?side1 ?side2 A9.out).mono ?_); (case side1 => repeat (first | exact (Kd.C_below HR0.out HB.out) | (with_reducible refine Kd.C_alloc ?_ _) | (with_reducible refine Kd.C_drewN ?_ _) | (with_reducible refine Kd.C_drew ?_))); (case side2 => exact HC0.out); rintro e w96 ⟨rfl, hb⟩; refine ⟨_, rfl, ?_⟩; replace BK331 := zM (bb_ BK331 hb); replace HB := zM (zB bel_ hb); (try clear hb); (try clear hb2); (try clear hk); (try clear hi); obtain ⟨hcz97_0, hcz97_1, hcz97_2, hcz97_3, hcz97_4, hcz97_5, hcz97_6, hcz97_7, hcz97_8, hcz97_9, hcz97_10, hcz97_11, hcz97_12, hcz97_13, hcz97_14⟩ := r15_ BK331.out; obtain ⟨hfz97_0, hfz97_1, hfz97_2, hfz97_3, hfz97_4, hfz97_5, hfz97_6, hfz97_7, hfz97_8, hfz97_9, hfz97_10, hfz97_11, hfz97_12, hfz97_13, hfz97_14⟩ := f15_ BK331.out))
    replace BK331 : Aside0 ((w96.setCell ⟨gb331, 2, none⟩ (.int .i64 (-1))).heap[gb331]? = some (.cells #[.int .i64 a2_0, .int .i64 a2_1, .int .i64 (-1), .int .i64 a2_3, .int .i64 a2_4, .float .f64 a2_5, .int .i64 a2_6, .int .i64 a2_7, .int .i64 a2_8, .int .i64 a2_9, .int .i64 a2_10, .int .i64 a2_11, .int .i64 a2_12, .int .i64 a2_13, .float .f64 a2_14] 35 (0, 0))) := ⟨by (with_reducible repeat (first | refine zN ?_ _ | refine zD ?_ | refine zA ?_ _)); refine blk_put (cs := #[.int .i64 a2_0, .int .i64 a2_1, .int .i64 a2_2, .int .i64 a2_3, .int .i64 a2_4, .float .f64 a2_5, .int .i64 a2_6, .int .i64 a2_7, .int .i64 a2_8, .int .i64 a2_9, .int .i64 a2_10, .int .i64 a2_11, .int .i64 a2_12, .int .i64 a2_13, .float .f64 a2_14]) ?_ 2 _ rfl; (with_reducible repeat (first | refine zN ?_ _ | refine zD ?_ | refine zA ?_ _)); exact BK331.out⟩
    replace HB : Aside0 (Below w.heap.size w (w96.setCell ⟨gb331, 2, none⟩ (.int .i64 (-1)))) := ⟨bel_⟩
    generalize (w96.setCell ⟨gb331, 2, none⟩ (.int .i64 (-1))) = w98 at BK331 HB ⊢
    replace BK331 := zM (zD BK331.out)
    replace HB := zM (below_drew1 HB.out)
    refine start_ (n := 13) (S := fun w' => w'.cell? ⟨gb331, 0, none⟩ = some (.int .i64 a2_0) ∧ w'.cell? ⟨gb331, 1, none⟩ = some (.int .i64 a2_1) ∧ w'.cell? ⟨gb331, 2, none⟩ = some (.int .i64 (-1)) ∧ w'.cell? ⟨gb331, 3, none⟩ = some (.int .i64 a2_3) ∧ w'.cell? ⟨gb331, 4, none⟩ = some (.int .i64 a2_4) ∧ w'.cell? ⟨gb331, 5, none⟩ = some (.float .f64 a2_5) ∧ w'.cell? ⟨gb331, 6, none⟩ = some (.int .i64 a2_6) ∧ w'.cell? ⟨gb331, 7, none⟩ = some (.int .i64 a2_7) ∧ w'.cell? ⟨gb331, 8, none⟩ = some (.int .i64 a2_8) ∧ w'.cell? ⟨gb331, 9, none⟩ = some (.int .i64 a2_9) ∧ w'.cell? ⟨gb331, 10, none⟩ = some (.int .i64 a2_10) ∧ w'.cell? ⟨gb331, 11, none⟩ = some (.int .i64 a2_11) ∧ w'.cell? ⟨gb331, 12, none⟩ = some (.int .i64 a2_12) ∧ w'.cell? ⟨gb331, 13, none⟩ = some (.int .i64 a2_13) ∧ w'.cell? ⟨gb331, 14, none⟩ = some (.float .f64 a2_14)) (ds := []) #[F_, F_, F_, F_, F_, F_, F_, F_, F_, F_, F_, F_, F_] (by kernel_rfl) rfl rfl ⟨(zL BK331.out 0).trans rfl, (zL BK331.out 1).trans rfl, (zL BK331.out 2).trans rfl, (zL BK331.out 3).trans rfl, (zL BK331.out 4).trans rfl, (zL BK331.out 5).trans rfl, (zL BK331.out 6).trans rfl, (zL BK331.out 7).trans rfl, (zL BK331.out 8).trans rfl, (zL BK331.out 9).trans rfl, (zL BK331.out 10).trans rfl, (zL BK331.out 11).trans rfl, (zL BK331.out 12).trans rfl, (zL BK331.out 13).trans rfl, (zL BK331.out 14).trans rfl⟩ (fun hHeld => ?_); refine with_tabW ropewaylaw21_PastSources.tab11 ropewaylaw21_PastSources.bits11 (fun HT_ HW_ => ?_)
    generalize w98.drew = w99 at BK331 HB hHeld ⊢
    refine pure_ (i := 0) (N := some 71) (v := ?_) (a' := ?_) #[T_, F_, F_, F_, F_, F_, F_, F_, F_, F_, F_, F_, F_] rfl rfl (any_of HT_.out (by kernel_rfl)) (fun _ _ _ h => h) (Or.inl ⟨by rfl, ?_⟩) ?_ ?_
    rotate_left
    · intro w'
      go_simp
      with_reducible rfl
    rotate_left
    · simp only [Act.put, zS, zZ, zC, i64_w, i32_w]
      rfl
    refine one_ (i := 1) (N := some 72) #[T_, T_, F_, F_, F_, F_, F_, F_, F_, F_, F_, F_, F_] rfl rfl (one_of HT_.out (by kernel_rfl)) (by decide) (fun K hK => ?_)
    refine goes_ Try.func8 (by kernel_rfl) rfl #[.slice A0 l0.length c0] (by rfl) rfl rfl (by (try simp only [List.map_toArray, List.map_cons, List.map_nil]); first | done | rfl | (simp only [List.length_drop, List.length_take]; rfl)) ?_
    with_reducible refine (past_Fits.calls k _ _ l0 true _ ?side1 ?side2 A89.out).mono ?_
    (case side1 => repeat (first | exact (Kd.C_below HR0.out HB.out) | (with_reducible refine Kd.C_alloc ?_ _) | (with_reducible refine Kd.C_drewN ?_ _) | (with_reducible refine Kd.C_drew ?_)))
    (case side2 => exact HC0.out)
    rintro e w100 ⟨rfl, hb⟩
    refine ⟨_, rfl, ?_⟩
    replace BK331 := zM (bb_ BK331 hb)
    replace HB := zM (zB bel_ hb)
    (try clear hb)
    (try clear hb2)
    (try clear hk)
    (try clear hi)
    refine hK.out _ _ ⟨(zL BK331.out 0).trans rfl, (zL BK331.out 1).trans rfl, (zL BK331.out 2).trans rfl, (zL BK331.out 3).trans rfl, (zL BK331.out 4).trans rfl, (zL BK331.out 5).trans rfl, (zL BK331.out 6).trans rfl, (zL BK331.out 7).trans rfl, (zL BK331.out 8).trans rfl, (zL BK331.out 9).trans rfl, (zL BK331.out 10).trans rfl, (zL BK331.out 11).trans rfl, (zL BK331.out 12).trans rfl, (zL BK331.out 13).trans rfl, (zL BK331.out 14).trans rfl⟩ (fun hHeld => ?_)
    clear hK K
    refine norm_ (a' := ?_) ?_ ?_
    rotate_left
    · show Act.put _ (some 72) _ = _
      simp only [Act.put, zS, zZ, zC, i64_w, i32_w]
      rfl
    refine pure_ (i := 2) (N := some 73) (v := ?_) (a' := ?_) #[T_, T_, T_, F_, F_, F_, F_, F_, F_, F_, F_, F_, F_] rfl rfl (any_of HT_.out (by kernel_rfl)) (fun _ _ _ h => h) (Or.inl ⟨by rfl, ?_⟩) ?_ ?_
    rotate_left
    · intro w'
      go_simp
      with_reducible rfl
    rotate_left
    · simp only [Act.put, zS, zZ, zC, i64_w, i32_w]
      rfl
    refine pure_ (i := 3) (N := some 74) (v := ?_) (a' := ?_) #[T_, T_, T_, T_, F_, F_, F_, F_, F_, F_, F_, F_, F_] rfl rfl (any_of HT_.out (by kernel_rfl)) (fun _ _ _ h => h) (Or.inl ⟨by rfl, ?_⟩) ?_ ?_
    rotate_left
    · intro w'
      go_simp
      with_reducible rfl
    rotate_left
    · simp only [Act.put, zS, zZ, zC, i64_w, i32_w]
      rfl
    refine pure_ (i := 5) (N := some 76) (v := ?_) (a' := ?_) #[T_, T_, T_, T_, F_, T_, F_, F_, F_, F_, F_, F_, F_] rfl rfl (any_of HT_.out (by kernel_rfl)) (fun _ _ _ h => h) (Or.inl ⟨by rfl, ?_⟩) ?_ ?_
    rotate_left
    · intro w'
      go_simp
      with_reducible rfl
    rotate_left
    · simp only [Act.put, zS, zZ, zC, i64_w, i32_w]
      rfl
    refine take_ (i := 7) (N := some 78) (v := ?_) (a' := ?_) #[T_, T_, T_, T_, F_, T_, F_, T_, F_, F_, F_, F_, F_] rfl rfl (take_ofW HT_.out HW_.out (by kernel_rfl)) (fun _ _ _ h => h) (Or.inl ⟨by rfl, ?_⟩) hHeld ?_ ?_
    rotate_left
    · rintro w' ⟨s0, s1, s2, s3, s4, s5, s6, s7, s8, s9, s10, s11, s12, s13, s14⟩
      go_simp
      with_reducible rfl
    rotate_left
    · simp only [Act.put, zS, zZ, zC, i64_w, i32_w]
      rfl
    refine join_ (σ := Value × Value × Value) 4 #[T_, T_, T_, T_, T_, T_, T_, T_, T_, F_, F_, F_, F_] (fun s_ => [(75, s_.1), (77, s_.2.1), (79, s_.2.2)]) (fun s_ w' => (w'.cell? ⟨gb331, 0, none⟩ = some (.int .i64 a2_0) ∧ w'.cell? ⟨gb331, 1, none⟩ = some (.int .i64 a2_1) ∧ w'.cell? ⟨gb331, 2, none⟩ = some (.int .i64 (-1)) ∧ w'.cell? ⟨gb331, 3, none⟩ = some (.int .i64 a2_3) ∧ w'.cell? ⟨gb331, 4, none⟩ = some (.int .i64 a2_4) ∧ w'.cell? ⟨gb331, 5, none⟩ = some (.float .f64 a2_5) ∧ w'.cell? ⟨gb331, 6, none⟩ = some (.int .i64 a2_6) ∧ w'.cell? ⟨gb331, 7, none⟩ = some (.int .i64 a2_7) ∧ w'.cell? ⟨gb331, 8, none⟩ = some (.int .i64 a2_8) ∧ w'.cell? ⟨gb331, 9, none⟩ = some (.int .i64 a2_9) ∧ w'.cell? ⟨gb331, 10, none⟩ = some (.int .i64 a2_10) ∧ w'.cell? ⟨gb331, 11, none⟩ = some (.int .i64 a2_11) ∧ w'.cell? ⟨gb331, 12, none⟩ = some (.int .i64 a2_12) ∧ w'.cell? ⟨gb331, 13, none⟩ = some (.int .i64 a2_13) ∧ w'.cell? ⟨gb331, 14, none⟩ = some (.float .f64 a2_14)) ∧ (Kd.R k35 35 w' w.heap.size (fun k_ => some k_ ≠ (s_.2.2 : Value).ownBlock ∧ k_ ≠ gb331) s_.2.1 y358) ∧ (Kd.R k35 35 w' w.heap.size (fun k_ => some k_ ≠ (s_.2.1 : Value).ownBlock ∧ k_ ≠ gb331) s_.2.2 y361) ∧ (w'.heap[gb331]? = some (.cells #[.int .i64 a2_0, .int .i64 a2_1, .int .i64 (-1), .int .i64 a2_3, .int .i64 a2_4, .float .f64 a2_5, .int .i64 a2_6, .int .i64 a2_7, .int .i64 a2_8, .int .i64 a2_9, .int .i64 a2_10, .int .i64 a2_11, .int .i64 a2_12, .int .i64 a2_13, .float .f64 a2_14] 35 (0, 0))) ∧ (Below w.heap.size w w')) ?_ ?_
    rotate_left
    · intro hCont
      refine two_ (i := 4) (j := 8) (Ni := some 75) (Nj := some 79) #[T_, T_, T_, T_, T_, T_, F_, T_, F_, F_, F_, F_, F_] #[T_, T_, T_, T_, F_, T_, F_, T_, T_, F_, F_, F_, F_] rfl rfl rfl rfl (two_of HT_.out (by kernel_rfl)) (by decide) (by decide) (fun K hK => ?_) (fun K hK => ?_)
      rotate_left
      · skip
        refine Kd.R_lit_step k35 _ 35 ?hg (N := 79) ?hd (xs := ([(⟨a2_0, a2_1, (-1), (⟨a2_3, a2_4, a2_5, (⟨a2_6, a2_7⟩ : S24)⟩ : S26), (⟨a2_8, (⟨a2_9, a2_10⟩ : S24), (⟨a2_11, (⟨a2_12, a2_13⟩ : S29), a2_14⟩ : S31)⟩ : S33)⟩ : S35)] : List (S35))) (inner := [.int .i64 a2_0, .int .i64 a2_1, .int .i64 (-1), .int .i64 a2_3, .int .i64 a2_4, .float .f64 a2_5, .int .i64 a2_6, .int .i64 a2_7, .int .i64 a2_8, .int .i64 a2_9, .int .i64 a2_10, .int .i64 a2_11, .int .i64 a2_12, .int .i64 a2_13, .float .f64 a2_14]) (ok := fun _ => True) (okp := fun _ => True) ?hr ?hp (fun _ hk => hk) trivial (Below.refl _ _) (Nat.le_refl _) (by simp) ?_; (case hd => rfl); (case hg => rfl); (case hr => first | (go_simp; done) | (go_simp; rfl)); (case hp => exact (Reps.front (show Kd.M k35 _ _ _ (⟨a2_0, a2_1, (-1), (⟨a2_3, a2_4, a2_5, (⟨a2_6, a2_7⟩ : S24)⟩ : S26), (⟨a2_8, (⟨a2_9, a2_10⟩ : S24), (⟨a2_11, (⟨a2_12, a2_13⟩ : S29), a2_14⟩ : S31)⟩ : S33)⟩ : S35) [.int .i64 a2_0, .int .i64 a2_1, .int .i64 (-1), .int .i64 a2_3, .int .i64 a2_4, .float .f64 a2_5, .int .i64 a2_6, .int .i64 a2_7, .int .i64 a2_8, .int .i64 a2_9, .int .i64 a2_10, .int .i64 a2_11, .int .i64 a2_12, .int .i64 a2_13, .float .f64 a2_14] from (k35_mkM _ _ _ (⟨a2_0, a2_1, (-1), (⟨a2_3, a2_4, a2_5, (⟨a2_6, a2_7⟩ : S24)⟩ : S26), (⟨a2_8, (⟨a2_9, a2_10⟩ : S24), (⟨a2_11, (⟨a2_12, a2_13⟩ : S29), a2_14⟩ : S31)⟩ : S33)⟩ : S35) )) rfl (Reps.none _ _) rfl))
        intro v362 w101 ho102 hb hg_ hnew_
        clear hg_ hnew_
        (first | rw [← Ny361.out] at ho102 | (simp only [Int.reduceToNat] at ho102; rw [← Ny361.out] at ho102))
        have HO363 := zM (Kd.R_lower (Kd.R_newB ho102 (g := gb331) (o := .cells #[.int .i64 a2_0, .int .i64 a2_1, .int .i64 (-1), .int .i64 a2_3, .int .i64 a2_4, .float .f64 a2_5, .int .i64 a2_6, .int .i64 a2_7, .int .i64 a2_8, .int .i64 a2_9, .int .i64 a2_10, .int .i64 a2_11, .int .i64 a2_12, .int .i64 a2_13, .float .f64 a2_14] 35 (0, 0)) blk_) (below_size bel_))
        replace BK331 := zM (bb_ BK331 hb)
        replace HB := zM (zB bel_ hb)
        clear hb ho102
        refine hK.out _ _ ⟨(zL BK331.out 0).trans rfl, (zL BK331.out 1).trans rfl, (zL BK331.out 2).trans rfl, (zL BK331.out 3).trans rfl, (zL BK331.out 4).trans rfl, (zL BK331.out 5).trans rfl, (zL BK331.out 6).trans rfl, (zL BK331.out 7).trans rfl, (zL BK331.out 8).trans rfl, (zL BK331.out 9).trans rfl, (zL BK331.out 10).trans rfl, (zL BK331.out 11).trans rfl, (zL BK331.out 12).trans rfl, (zL BK331.out 13).trans rfl, (zL BK331.out 14).trans rfl⟩ (fun hHeld => ?_)
        clear hK K
        refine norm_ (a' := ?_) ?_ ?_
        rotate_left
        · show Act.put _ (some 79) _ = _
          simp only [Act.put, zS, zZ, zC, i64_w, i32_w]
          rfl
        refine one_ (i := 4) (N := some 75) #[T_, T_, T_, T_, T_, T_, F_, T_, T_, F_, F_, F_, F_] rfl rfl (one_of HT_.out (by kernel_rfl)) (by decide) (fun K hK => ?_)
        refine Kd.R_lit_step k35 _ 35 ?hg (N := 75) ?hd (xs := ([] : List (S35))) (inner := []) (ok := fun _ => True) (okp := fun _ => True) ?hr ?hp (fun _ hk => hk) trivial (Below.refl _ _) (Nat.le_refl _) (by simp) ?_; (case hd => rfl); (case hg => rfl); (case hr => first | (go_simp; done) | (go_simp; rfl)); (case hp => exact (Reps.none _ _))
        intro v356 w103 ho104 hb hg_ hnew_
        clear hg_ hnew_
        (first | rw [← Ny355.out] at ho104 | (simp only [Int.reduceToNat] at ho104; rw [← Ny355.out] at ho104))
        have HO357 := zM (Kd.R_lower (Kd.R_newB (Kd.R_new' ho104 (Kd.R_lt (rl_ HO363))) (g := gb331) (o := .cells #[.int .i64 a2_0, .int .i64 a2_1, .int .i64 (-1), .int .i64 a2_3, .int .i64 a2_4, .float .f64 a2_5, .int .i64 a2_6, .int .i64 a2_7, .int .i64 a2_8, .int .i64 a2_9, .int .i64 a2_10, .int .i64 a2_11, .int .i64 a2_12, .int .i64 a2_13, .float .f64 a2_14] 35 (0, 0)) blk_) (below_size bel_))
        replace HO363 := zM (Kd.R_elder' (rl_ HO363) (Kd.R_base ho104) hb)
        replace BK331 := zM (bb_ BK331 hb)
        replace HB := zM (zB bel_ hb)
        clear hb ho104
        refine hK.out _ _ ⟨(zL BK331.out 0).trans rfl, (zL BK331.out 1).trans rfl, (zL BK331.out 2).trans rfl, (zL BK331.out 3).trans rfl, (zL BK331.out 4).trans rfl, (zL BK331.out 5).trans rfl, (zL BK331.out 6).trans rfl, (zL BK331.out 7).trans rfl, (zL BK331.out 8).trans rfl, (zL BK331.out 9).trans rfl, (zL BK331.out 10).trans rfl, (zL BK331.out 11).trans rfl, (zL BK331.out 12).trans rfl, (zL BK331.out 13).trans rfl, (zL BK331.out 14).trans rfl⟩ (fun hHeld => ?_)
        clear hK K
        refine norm_ (a' := ?_) ?_ ?_
        rotate_left
        · show Act.put _ (some 75) _ = _
          simp only [Act.put, zS, zZ, zC, i64_w, i32_w]
          rfl
        refine one_ (i := 6) (N := some 77) #[T_, T_, T_, T_, T_, T_, T_, T_, T_, F_, F_, F_, F_] rfl rfl (one_of HT_.out (by kernel_rfl)) (by decide) (fun K hK => ?_)
        refine Kd.R_append_rows_step k35 (w0 := w) w.heap.size (by rfl) (.tmp 75) (.tmp 76) 42 35 (.agg #[(.int .i64 0), (.int .i64 0), (.int .i64 0), (.int .i64 0), (.int .i64 0), (.float .f64 0), (.int .i64 0), (.int .i64 0), (.int .i64 0), (.int .i64 0), (.int .i64 0), (.int .i64 0), (.int .i64 0), (.int .i64 0), (.float .f64 0)]) 120 rfl Try.underlying42 info35 rfl (by decide) (by omega) v356 y355 l0 _ _ _ (fun k_ => some k_ ≠ (v362 : Value).ownBlock ∧ k_ ≠ gb331) (fun _ => False) rfl rfl ?aO ?aR (fun _ _ h => h) (fun _ h => h.elim) ?aF ?aB ?aS ?aL ?_
        (case aR => repeat (first | exact (Kd.C_below HR0.out HB.out) | (with_reducible refine Kd.C_alloc ?_ _) | (with_reducible refine Kd.C_drewN ?_ _) | (with_reducible refine Kd.C_drew ?_)))
        (case aB => exact bel_)
        (case aF => exact (fun k_ hk => ⟨Kd.fresh' (Kd.R_lt (rl_ HO363)) k_ hk, Kd.freshB (g := gb331) (o := .cells #[.int .i64 a2_0, .int .i64 a2_1, .int .i64 (-1), .int .i64 a2_3, .int .i64 a2_4, .float .f64 a2_5, .int .i64 a2_6, .int .i64 a2_7, .int .i64 a2_8, .int .i64 a2_9, .int .i64 a2_10, .int .i64 a2_11, .int .i64 a2_12, .int .i64 a2_13, .float .f64 a2_14] 35 (0, 0)) blk_ k_ hk⟩))
        (case aO => exact (by (with_reducible repeat (first | apply Kd.R_alloc | apply Kd.R_drewN | apply Kd.R_drew)); exact Kd.R_mono HO357.out (fun _ hk => ⟨hk.1.2, hk.2⟩)))
        (case aS => exact (below_size bel_))
        (case aL => have := LMc91.out; omega)
        intro v359 w105 ho hb hg hat
        rw [← Ny358.out] at ho
        replace BK331 := zM (blk_grown (g := gb331) (o := .cells #[.int .i64 a2_0, .int .i64 a2_1, .int .i64 (-1), .int .i64 a2_3, .int .i64 a2_4, .float .f64 a2_5, .int .i64 a2_6, .int .i64 a2_7, .int .i64 a2_8, .int .i64 a2_9, .int .i64 a2_10, .int .i64 a2_11, .int .i64 a2_12, .int .i64 a2_13, .float .f64 a2_14] 35 (0, 0)) blk_ hg (Kd.R_away HO357.out (fun _ hk => hk.2)))
        replace HO363 := zM (Kd.R_after (ok := (fun k_ => k_ ≠ gb331)) (by (with_reducible repeat (first | apply Kd.R_alloc | apply Kd.R_drewN | apply Kd.R_drew)); exact Kd.R_mono HO363.out (fun _ hk => ⟨hk.1.2, hk.2⟩)) hg hat)
        replace HB := zM (hb)
        have HO360 := zM (ho)
        clear HO357
        clear ho hb hg hat
        refine hK.out _ _ ⟨(zL BK331.out 0).trans rfl, (zL BK331.out 1).trans rfl, (zL BK331.out 2).trans rfl, (zL BK331.out 3).trans rfl, (zL BK331.out 4).trans rfl, (zL BK331.out 5).trans rfl, (zL BK331.out 6).trans rfl, (zL BK331.out 7).trans rfl, (zL BK331.out 8).trans rfl, (zL BK331.out 9).trans rfl, (zL BK331.out 10).trans rfl, (zL BK331.out 11).trans rfl, (zL BK331.out 12).trans rfl, (zL BK331.out 13).trans rfl, (zL BK331.out 14).trans rfl⟩ (fun hHeld => ?_)
        clear hK K
        refine norm_ (a' := ?_) ?_ ?_
        rotate_left
        · show Act.put _ (some 77) _ = _
          simp only [Act.put, zS, zZ, zC, i64_w, i32_w]
          rfl
        exact norm_ (by simp only [putAll, Act.put, zS, zZ, zC]) (hCont (v356, v359, v362) _ ⟨hHeld, (rl_ HO360), (by (with_reducible repeat (first | apply Kd.R_alloc | apply Kd.R_drewN | apply Kd.R_drew)); exact Kd.R_mono HO363.out (fun _ hk => ⟨hk.2, hk.1⟩)), blk_, bel_⟩)
      skip
      refine Kd.R_lit_step k35 _ 35 ?hg (N := 75) ?hd (xs := ([] : List (S35))) (inner := []) (ok := fun _ => True) (okp := fun _ => True) ?hr ?hp (fun _ hk => hk) trivial (Below.refl _ _) (Nat.le_refl _) (by simp) ?_; (case hd => rfl); (case hg => rfl); (case hr => first | (go_simp; done) | (go_simp; rfl)); (case hp => exact (Reps.none _ _))
      intro v356 w101 ho102 hb hg_ hnew_
      clear hg_ hnew_
      (first | rw [← Ny355.out] at ho102 | (simp only [Int.reduceToNat] at ho102; rw [← Ny355.out] at ho102))
      have HO357 := zM (Kd.R_lower (Kd.R_newB ho102 (g := gb331) (o := .cells #[.int .i64 a2_0, .int .i64 a2_1, .int .i64 (-1), .int .i64 a2_3, .int .i64 a2_4, .float .f64 a2_5, .int .i64 a2_6, .int .i64 a2_7, .int .i64 a2_8, .int .i64 a2_9, .int .i64 a2_10, .int .i64 a2_11, .int .i64 a2_12, .int .i64 a2_13, .float .f64 a2_14] 35 (0, 0)) blk_) (below_size bel_))
      replace BK331 := zM (bb_ BK331 hb)
      replace HB := zM (zB bel_ hb)
      clear hb ho102
      refine hK.out _ _ ⟨(zL BK331.out 0).trans rfl, (zL BK331.out 1).trans rfl, (zL BK331.out 2).trans rfl, (zL BK331.out 3).trans rfl, (zL BK331.out 4).trans rfl, (zL BK331.out 5).trans rfl, (zL BK331.out 6).trans rfl, (zL BK331.out 7).trans rfl, (zL BK331.out 8).trans rfl, (zL BK331.out 9).trans rfl, (zL BK331.out 10).trans rfl, (zL BK331.out 11).trans rfl, (zL BK331.out 12).trans rfl, (zL BK331.out 13).trans rfl, (zL BK331.out 14).trans rfl⟩ (fun hHeld => ?_)
      clear hK K
      refine norm_ (a' := ?_) ?_ ?_
      rotate_left
      · show Act.put _ (some 75) _ = _
        simp only [Act.put, zS, zZ, zC, i64_w, i32_w]
        rfl
      refine two_ (i := 6) (j := 8) (Ni := some 77) (Nj := some 79) #[T_, T_, T_, T_, T_, T_, T_, T_, F_, F_, F_, F_, F_] #[T_, T_, T_, T_, T_, T_, F_, T_, T_, F_, F_, F_, F_] rfl rfl rfl rfl (two_of HT_.out (by kernel_rfl)) (by decide) (by decide) (fun K hK => ?_) (fun K hK => ?_)
      · skip
        refine Kd.R_append_rows_step k35 (w0 := w) w.heap.size (by rfl) (.tmp 75) (.tmp 76) 42 35 (.agg #[(.int .i64 0), (.int .i64 0), (.int .i64 0), (.int .i64 0), (.int .i64 0), (.float .f64 0), (.int .i64 0), (.int .i64 0), (.int .i64 0), (.int .i64 0), (.int .i64 0), (.int .i64 0), (.int .i64 0), (.int .i64 0), (.float .f64 0)]) 120 rfl Try.underlying42 info35 rfl (by decide) (by omega) v356 y355 l0 _ _ _ (fun k_ => k_ ≠ gb331) (fun _ => False) rfl rfl ?aO ?aR (fun _ _ h => h) (fun _ h => h.elim) ?aF ?aB ?aS ?aL ?_
        (case aR => repeat (first | exact (Kd.C_below HR0.out HB.out) | (with_reducible refine Kd.C_alloc ?_ _) | (with_reducible refine Kd.C_drewN ?_ _) | (with_reducible refine Kd.C_drew ?_)))
        (case aB => exact bel_)
        (case aF => exact (fun k_ hk => Kd.freshB (g := gb331) (o := .cells #[.int .i64 a2_0, .int .i64 a2_1, .int .i64 (-1), .int .i64 a2_3, .int .i64 a2_4, .float .f64 a2_5, .int .i64 a2_6, .int .i64 a2_7, .int .i64 a2_8, .int .i64 a2_9, .int .i64 a2_10, .int .i64 a2_11, .int .i64 a2_12, .int .i64 a2_13, .float .f64 a2_14] 35 (0, 0)) blk_ k_ hk))
        (case aO => exact (by (with_reducible repeat (first | apply Kd.R_alloc | apply Kd.R_drewN | apply Kd.R_drew)); exact Kd.R_mono HO357.out (fun _ hk => hk.2)))
        (case aS => exact (below_size bel_))
        (case aL => have := LMc91.out; omega)
        intro v359 w103 ho hb hg hat
        rw [← Ny358.out] at ho
        replace BK331 := zM (blk_grown (g := gb331) (o := .cells #[.int .i64 a2_0, .int .i64 a2_1, .int .i64 (-1), .int .i64 a2_3, .int .i64 a2_4, .float .f64 a2_5, .int .i64 a2_6, .int .i64 a2_7, .int .i64 a2_8, .int .i64 a2_9, .int .i64 a2_10, .int .i64 a2_11, .int .i64 a2_12, .int .i64 a2_13, .float .f64 a2_14] 35 (0, 0)) blk_ hg (Kd.R_away HO357.out (fun _ hk => hk.2)))
        replace HB := zM (hb)
        have HO360 := zM (ho)
        clear HO357
        clear ho hb hg hat
        refine hK.out _ _ ⟨(zL BK331.out 0).trans rfl, (zL BK331.out 1).trans rfl, (zL BK331.out 2).trans rfl, (zL BK331.out 3).trans rfl, (zL BK331.out 4).trans rfl, (zL BK331.out 5).trans rfl, (zL BK331.out 6).trans rfl, (zL BK331.out 7).trans rfl, (zL BK331.out 8).trans rfl, (zL BK331.out 9).trans rfl, (zL BK331.out 10).trans rfl, (zL BK331.out 11).trans rfl, (zL BK331.out 12).trans rfl, (zL BK331.out 13).trans rfl, (zL BK331.out 14).trans rfl⟩ (fun hHeld => ?_)
        clear hK K
        refine norm_ (a' := ?_) ?_ ?_
        rotate_left
        · show Act.put _ (some 77) _ = _
          simp only [Act.put, zS, zZ, zC, i64_w, i32_w]
          rfl
        refine one_ (i := 8) (N := some 79) #[T_, T_, T_, T_, T_, T_, T_, T_, T_, F_, F_, F_, F_] rfl rfl (one_of HT_.out (by kernel_rfl)) (by decide) (fun K hK => ?_)
        refine Kd.R_lit_step k35 _ 35 ?hg (N := 79) ?hd (xs := ([(⟨a2_0, a2_1, (-1), (⟨a2_3, a2_4, a2_5, (⟨a2_6, a2_7⟩ : S24)⟩ : S26), (⟨a2_8, (⟨a2_9, a2_10⟩ : S24), (⟨a2_11, (⟨a2_12, a2_13⟩ : S29), a2_14⟩ : S31)⟩ : S33)⟩ : S35)] : List (S35))) (inner := [.int .i64 a2_0, .int .i64 a2_1, .int .i64 (-1), .int .i64 a2_3, .int .i64 a2_4, .float .f64 a2_5, .int .i64 a2_6, .int .i64 a2_7, .int .i64 a2_8, .int .i64 a2_9, .int .i64 a2_10, .int .i64 a2_11, .int .i64 a2_12, .int .i64 a2_13, .float .f64 a2_14]) (ok := fun _ => True) (okp := fun _ => True) ?hr ?hp (fun _ hk => hk) trivial (Below.refl _ _) (Nat.le_refl _) (by simp) ?_; (case hd => rfl); (case hg => rfl); (case hr => first | (go_simp; done) | (go_simp; rfl)); (case hp => exact (Reps.front (show Kd.M k35 _ _ _ (⟨a2_0, a2_1, (-1), (⟨a2_3, a2_4, a2_5, (⟨a2_6, a2_7⟩ : S24)⟩ : S26), (⟨a2_8, (⟨a2_9, a2_10⟩ : S24), (⟨a2_11, (⟨a2_12, a2_13⟩ : S29), a2_14⟩ : S31)⟩ : S33)⟩ : S35) [.int .i64 a2_0, .int .i64 a2_1, .int .i64 (-1), .int .i64 a2_3, .int .i64 a2_4, .float .f64 a2_5, .int .i64 a2_6, .int .i64 a2_7, .int .i64 a2_8, .int .i64 a2_9, .int .i64 a2_10, .int .i64 a2_11, .int .i64 a2_12, .int .i64 a2_13, .float .f64 a2_14] from (k35_mkM _ _ _ (⟨a2_0, a2_1, (-1), (⟨a2_3, a2_4, a2_5, (⟨a2_6, a2_7⟩ : S24)⟩ : S26), (⟨a2_8, (⟨a2_9, a2_10⟩ : S24), (⟨a2_11, (⟨a2_12, a2_13⟩ : S29), a2_14⟩ : S31)⟩ : S33)⟩ : S35) )) rfl (Reps.none _ _) rfl))
        intro v362 w104 ho105 hb hg_ hnew_
        clear hg_ hnew_
        (first | rw [← Ny361.out] at ho105 | (simp only [Int.reduceToNat] at ho105; rw [← Ny361.out] at ho105))
        have HO363 := zM (Kd.R_lower (Kd.R_newB (Kd.R_new' ho105 (Kd.R_lt (rl_ HO360))) (g := gb331) (o := .cells #[.int .i64 a2_0, .int .i64 a2_1, .int .i64 (-1), .int .i64 a2_3, .int .i64 a2_4, .float .f64 a2_5, .int .i64 a2_6, .int .i64 a2_7, .int .i64 a2_8, .int .i64 a2_9, .int .i64 a2_10, .int .i64 a2_11, .int .i64 a2_12, .int .i64 a2_13, .float .f64 a2_14] 35 (0, 0)) blk_) (below_size bel_))
        replace HO360 := zM (Kd.R_elder' (rl_ HO360) (Kd.R_base ho105) hb)
        replace BK331 := zM (bb_ BK331 hb)
        replace HB := zM (zB bel_ hb)
        clear hb ho105
        refine hK.out _ _ ⟨(zL BK331.out 0).trans rfl, (zL BK331.out 1).trans rfl, (zL BK331.out 2).trans rfl, (zL BK331.out 3).trans rfl, (zL BK331.out 4).trans rfl, (zL BK331.out 5).trans rfl, (zL BK331.out 6).trans rfl, (zL BK331.out 7).trans rfl, (zL BK331.out 8).trans rfl, (zL BK331.out 9).trans rfl, (zL BK331.out 10).trans rfl, (zL BK331.out 11).trans rfl, (zL BK331.out 12).trans rfl, (zL BK331.out 13).trans rfl, (zL BK331.out 14).trans rfl⟩ (fun hHeld => ?_)
        clear hK K
        refine norm_ (a' := ?_) ?_ ?_
        rotate_left
        · show Act.put _ (some 79) _ = _
          simp only [Act.put, zS, zZ, zC, i64_w, i32_w]
          rfl
        exact norm_ (by simp only [putAll, Act.put, zS, zZ, zC]) (hCont (v356, v359, v362) _ ⟨hHeld, (by (with_reducible repeat (first | apply Kd.R_alloc | apply Kd.R_drewN | apply Kd.R_drew)); exact Kd.R_mono HO360.out (fun _ hk => ⟨hk.2, hk.1⟩)), (by (with_reducible repeat (first | apply Kd.R_alloc | apply Kd.R_drewN | apply Kd.R_drew)); exact Kd.R_mono HO363.out (fun _ hk => ⟨hk.1.2, hk.2⟩)), blk_, bel_⟩)
      skip
      refine Kd.R_lit_step k35 _ 35 ?hg (N := 79) ?hd (xs := ([(⟨a2_0, a2_1, (-1), (⟨a2_3, a2_4, a2_5, (⟨a2_6, a2_7⟩ : S24)⟩ : S26), (⟨a2_8, (⟨a2_9, a2_10⟩ : S24), (⟨a2_11, (⟨a2_12, a2_13⟩ : S29), a2_14⟩ : S31)⟩ : S33)⟩ : S35)] : List (S35))) (inner := [.int .i64 a2_0, .int .i64 a2_1, .int .i64 (-1), .int .i64 a2_3, .int .i64 a2_4, .float .f64 a2_5, .int .i64 a2_6, .int .i64 a2_7, .int .i64 a2_8, .int .i64 a2_9, .int .i64 a2_10, .int .i64 a2_11, .int .i64 a2_12, .int .i64 a2_13, .float .f64 a2_14]) (ok := fun _ => True) (okp := fun _ => True) ?hr ?hp (fun _ hk => hk) trivial (Below.refl _ _) (Nat.le_refl _) (by simp) ?_; (case hd => rfl); (case hg => rfl); (case hr => first | (go_simp; done) | (go_simp; rfl)); (case hp => exact (Reps.front (show Kd.M k35 _ _ _ (⟨a2_0, a2_1, (-1), (⟨a2_3, a2_4, a2_5, (⟨a2_6, a2_7⟩ : S24)⟩ : S26), (⟨a2_8, (⟨a2_9, a2_10⟩ : S24), (⟨a2_11, (⟨a2_12, a2_13⟩ : S29), a2_14⟩ : S31)⟩ : S33)⟩ : S35) [.int .i64 a2_0, .int .i64 a2_1, .int .i64 (-1), .int .i64 a2_3, .int .i64 a2_4, .float .f64 a2_5, .int .i64 a2_6, .int .i64 a2_7, .int .i64 a2_8, .int .i64 a2_9, .int .i64 a2_10, .int .i64 a2_11, .int .i64 a2_12, .int .i64 a2_13, .float .f64 a2_14] from (k35_mkM _ _ _ (⟨a2_0, a2_1, (-1), (⟨a2_3, a2_4, a2_5, (⟨a2_6, a2_7⟩ : S24)⟩ : S26), (⟨a2_8, (⟨a2_9, a2_10⟩ : S24), (⟨a2_11, (⟨a2_12, a2_13⟩ : S29), a2_14⟩ : S31)⟩ : S33)⟩ : S35) )) rfl (Reps.none _ _) rfl))
      intro v362 w103 ho104 hb hg_ hnew_
      clear hg_ hnew_
      (first | rw [← Ny361.out] at ho104 | (simp only [Int.reduceToNat] at ho104; rw [← Ny361.out] at ho104))
      have HO363 := zM (Kd.R_lower (Kd.R_newB (Kd.R_new' ho104 (Kd.R_lt (rl_ HO357))) (g := gb331) (o := .cells #[.int .i64 a2_0, .int .i64 a2_1, .int .i64 (-1), .int .i64 a2_3, .int .i64 a2_4, .float .f64 a2_5, .int .i64 a2_6, .int .i64 a2_7, .int .i64 a2_8, .int .i64 a2_9, .int .i64 a2_10, .int .i64 a2_11, .int .i64 a2_12, .int .i64 a2_13, .float .f64 a2_14] 35 (0, 0)) blk_) (below_size bel_))
      replace HO357 := zM (Kd.R_elder' (rl_ HO357) (Kd.R_base ho104) hb)
      replace BK331 := zM (bb_ BK331 hb)
      replace HB := zM (zB bel_ hb)
      clear hb ho104
      refine hK.out _ _ ⟨(zL BK331.out 0).trans rfl, (zL BK331.out 1).trans rfl, (zL BK331.out 2).trans rfl, (zL BK331.out 3).trans rfl, (zL BK331.out 4).trans rfl, (zL BK331.out 5).trans rfl, (zL BK331.out 6).trans rfl, (zL BK331.out 7).trans rfl, (zL BK331.out 8).trans rfl, (zL BK331.out 9).trans rfl, (zL BK331.out 10).trans rfl, (zL BK331.out 11).trans rfl, (zL BK331.out 12).trans rfl, (zL BK331.out 13).trans rfl, (zL BK331.out 14).trans rfl⟩ (fun hHeld => ?_)
      clear hK K
      refine norm_ (a' := ?_) ?_ ?_
      rotate_left
      · show Act.put _ (some 79) _ = _
        simp only [Act.put, zS, zZ, zC, i64_w, i32_w]
        rfl
      refine one_ (i := 6) (N := some 77) #[T_, T_, T_, T_, T_, T_, T_, T_, T_, F_, F_, F_, F_] rfl rfl (one_of HT_.out (by kernel_rfl)) (by decide) (fun K hK => ?_)
      refine Kd.R_append_rows_step k35 (w0 := w) w.heap.size (by rfl) (.tmp 75) (.tmp 76) 42 35 (.agg #[(.int .i64 0), (.int .i64 0), (.int .i64 0), (.int .i64 0), (.int .i64 0), (.float .f64 0), (.int .i64 0), (.int .i64 0), (.int .i64 0), (.int .i64 0), (.int .i64 0), (.int .i64 0), (.int .i64 0), (.int .i64 0), (.float .f64 0)]) 120 rfl Try.underlying42 info35 rfl (by decide) (by omega) v356 y355 l0 _ _ _ (fun k_ => some k_ ≠ (v362 : Value).ownBlock ∧ k_ ≠ gb331) (fun _ => False) rfl rfl ?aO ?aR (fun _ _ h => h) (fun _ h => h.elim) ?aF ?aB ?aS ?aL ?_
      (case aR => repeat (first | exact (Kd.C_below HR0.out HB.out) | (with_reducible refine Kd.C_alloc ?_ _) | (with_reducible refine Kd.C_drewN ?_ _) | (with_reducible refine Kd.C_drew ?_)))
      (case aB => exact bel_)
      (case aF => exact (fun k_ hk => ⟨Kd.fresh' (Kd.R_lt (rl_ HO363)) k_ hk, Kd.freshB (g := gb331) (o := .cells #[.int .i64 a2_0, .int .i64 a2_1, .int .i64 (-1), .int .i64 a2_3, .int .i64 a2_4, .float .f64 a2_5, .int .i64 a2_6, .int .i64 a2_7, .int .i64 a2_8, .int .i64 a2_9, .int .i64 a2_10, .int .i64 a2_11, .int .i64 a2_12, .int .i64 a2_13, .float .f64 a2_14] 35 (0, 0)) blk_ k_ hk⟩))
      (case aO => exact (by (with_reducible repeat (first | apply Kd.R_alloc | apply Kd.R_drewN | apply Kd.R_drew)); exact Kd.R_mono HO357.out (fun _ hk => ⟨hk.2, hk.1.2⟩)))
      (case aS => exact (below_size bel_))
      (case aL => have := LMc91.out; omega)
      intro v359 w105 ho hb hg hat
      rw [← Ny358.out] at ho
      replace BK331 := zM (blk_grown (g := gb331) (o := .cells #[.int .i64 a2_0, .int .i64 a2_1, .int .i64 (-1), .int .i64 a2_3, .int .i64 a2_4, .float .f64 a2_5, .int .i64 a2_6, .int .i64 a2_7, .int .i64 a2_8, .int .i64 a2_9, .int .i64 a2_10, .int .i64 a2_11, .int .i64 a2_12, .int .i64 a2_13, .float .f64 a2_14] 35 (0, 0)) blk_ hg (Kd.R_away HO357.out (fun _ hk => hk.1.2)))
      replace HO363 := zM (Kd.R_after (ok := (fun k_ => k_ ≠ gb331)) (by (with_reducible repeat (first | apply Kd.R_alloc | apply Kd.R_drewN | apply Kd.R_drew)); exact Kd.R_mono HO363.out (fun _ hk => ⟨hk.2, hk.1.2⟩)) hg hat)
      replace HB := zM (hb)
      have HO360 := zM (ho)
      clear HO357
      clear ho hb hg hat
      refine hK.out _ _ ⟨(zL BK331.out 0).trans rfl, (zL BK331.out 1).trans rfl, (zL BK331.out 2).trans rfl, (zL BK331.out 3).trans rfl, (zL BK331.out 4).trans rfl, (zL BK331.out 5).trans rfl, (zL BK331.out 6).trans rfl, (zL BK331.out 7).trans rfl, (zL BK331.out 8).trans rfl, (zL BK331.out 9).trans rfl, (zL BK331.out 10).trans rfl, (zL BK331.out 11).trans rfl, (zL BK331.out 12).trans rfl, (zL BK331.out 13).trans rfl, (zL BK331.out 14).trans rfl⟩ (fun hHeld => ?_)
      clear hK K
      refine norm_ (a' := ?_) ?_ ?_
      rotate_left
      · show Act.put _ (some 77) _ = _
        simp only [Act.put, zS, zZ, zC, i64_w, i32_w]
        rfl
      exact norm_ (by simp only [putAll, Act.put, zS, zZ, zC]) (hCont (v356, v359, v362) _ ⟨hHeld, (rl_ HO360), (by (with_reducible repeat (first | apply Kd.R_alloc | apply Kd.R_drewN | apply Kd.R_drew)); exact Kd.R_mono HO363.out (fun _ hk => ⟨hk.2, hk.1⟩)), blk_, bel_⟩)
    rintro ⟨v356, v359, v362⟩ w106 ⟨hS_, h0_, h1_, h2_, h3_⟩
    have HO360 : Aside0 (Kd.R k35 35 w106 w.heap.size (fun k_ => some k_ ≠ (v362 : Value).ownBlock ∧ k_ ≠ gb331) v359 y358) := ⟨h0_⟩
    have HO363 : Aside0 (Kd.R k35 35 w106 w.heap.size (fun k_ => some k_ ≠ (v359 : Value).ownBlock ∧ k_ ≠ gb331) v362 y361) := ⟨h1_⟩
    replace BK331 : Aside0 (w106.heap[gb331]? = some (.cells #[.int .i64 a2_0, .int .i64 a2_1, .int .i64 (-1), .int .i64 a2_3, .int .i64 a2_4, .float .f64 a2_5, .int .i64 a2_6, .int .i64 a2_7, .int .i64 a2_8, .int .i64 a2_9, .int .i64 a2_10, .int .i64 a2_11, .int .i64 a2_12, .int .i64 a2_13, .float .f64 a2_14] 35 (0, 0))) := ⟨h2_⟩
    replace HB : Aside0 (Below w.heap.size w w106) := ⟨h3_⟩
    clear h0_ h1_ h2_ h3_
    have hHeld : w106.cell? ⟨gb331, 0, none⟩ = some (.int .i64 a2_0) ∧ w106.cell? ⟨gb331, 1, none⟩ = some (.int .i64 a2_1) ∧ w106.cell? ⟨gb331, 2, none⟩ = some (.int .i64 (-1)) ∧ w106.cell? ⟨gb331, 3, none⟩ = some (.int .i64 a2_3) ∧ w106.cell? ⟨gb331, 4, none⟩ = some (.int .i64 a2_4) ∧ w106.cell? ⟨gb331, 5, none⟩ = some (.float .f64 a2_5) ∧ w106.cell? ⟨gb331, 6, none⟩ = some (.int .i64 a2_6) ∧ w106.cell? ⟨gb331, 7, none⟩ = some (.int .i64 a2_7) ∧ w106.cell? ⟨gb331, 8, none⟩ = some (.int .i64 a2_8) ∧ w106.cell? ⟨gb331, 9, none⟩ = some (.int .i64 a2_9) ∧ w106.cell? ⟨gb331, 10, none⟩ = some (.int .i64 a2_10) ∧ w106.cell? ⟨gb331, 11, none⟩ = some (.int .i64 a2_11) ∧ w106.cell? ⟨gb331, 12, none⟩ = some (.int .i64 a2_12) ∧ w106.cell? ⟨gb331, 13, none⟩ = some (.int .i64 a2_13) ∧ w106.cell? ⟨gb331, 14, none⟩ = some (.float .f64 a2_14) := hS_
    obtain ⟨Ao108, co108, eo108⟩ := Kd.R_slice HO363.out
    (first | subst eo108 | (injection eo108 with f1_ f2_ f3_; have f4_ := f1_.symm; have f5_ := f3_.symm; clear f1_ f2_ f3_; subst f4_; subst f5_))
    refine norm_ (a' := ?_) ?_ ?_
    rotate_left
    · simp only [putAll, Act.put, zS, zZ, zC]
      rfl
    refine one_ (i := 9) (N := some 80) #[T_, T_, T_, T_, T_, T_, T_, T_, T_, T_, F_, F_, F_] rfl rfl (one_of HT_.out (by kernel_rfl)) (by decide) (fun K hK => ?_)
    refine Kd.R_append_rows_step k35 (w0 := w) w.heap.size (by rfl) (.tmp 77) (.tmp 79) 42 35 (.agg #[(.int .i64 0), (.int .i64 0), (.int .i64 0), (.int .i64 0), (.int .i64 0), (.float .f64 0), (.int .i64 0), (.int .i64 0), (.int .i64 0), (.int .i64 0), (.int .i64 0), (.int .i64 0), (.int .i64 0), (.int .i64 0), (.float .f64 0)]) 120 rfl Try.underlying42 info35 rfl (by decide) (by omega) v359 y358 y361 _ _ _ (fun k_ => some k_ ≠ (.slice Ao108 y361.length co108 : Value).ownBlock ∧ k_ ≠ gb331) (fun _ => False) rfl rfl ?aO ?aR (fun _ _ h => h) (fun _ h => h.elim) ?aF ?aB ?aS ?aL ?_
    (case aR => repeat (first | exact (Kd.R_reads' HO363.out).2.2 | (with_reducible refine Kd.C_alloc ?_ _) | (with_reducible refine Kd.C_drewN ?_ _) | (with_reducible refine Kd.C_drew ?_)))
    (case aB => exact bel_)
    (case aF => exact (fun k_ hk => ⟨Kd.fresh' (Kd.R_lt (rl_ HO363)) k_ hk, Kd.freshB (g := gb331) (o := .cells #[.int .i64 a2_0, .int .i64 a2_1, .int .i64 (-1), .int .i64 a2_3, .int .i64 a2_4, .float .f64 a2_5, .int .i64 a2_6, .int .i64 a2_7, .int .i64 a2_8, .int .i64 a2_9, .int .i64 a2_10, .int .i64 a2_11, .int .i64 a2_12, .int .i64 a2_13, .float .f64 a2_14] 35 (0, 0)) blk_ k_ hk⟩))
    (case aO => exact (rl_ HO360))
    (case aS => exact (below_size bel_))
    (case aL => have := LMc92.out; omega)
    intro v365 w107 ho hb hg hat
    rw [← Ny364.out] at ho
    replace BK331 := zM (blk_grown (g := gb331) (o := .cells #[.int .i64 a2_0, .int .i64 a2_1, .int .i64 (-1), .int .i64 a2_3, .int .i64 a2_4, .float .f64 a2_5, .int .i64 a2_6, .int .i64 a2_7, .int .i64 a2_8, .int .i64 a2_9, .int .i64 a2_10, .int .i64 a2_11, .int .i64 a2_12, .int .i64 a2_13, .float .f64 a2_14] 35 (0, 0)) blk_ hg (Kd.R_away HO360.out (fun _ hk => hk.2)))
    replace HO363 := zM (Kd.R_after (ok := (fun k_ => k_ ≠ gb331)) (by (with_reducible repeat (first | apply Kd.R_alloc | apply Kd.R_drewN | apply Kd.R_drew)); exact Kd.R_mono HO363.out (fun _ hk => ⟨hk.2, hk.1⟩)) hg hat)
    replace HB := zM (hb)
    have HO366 := zM (ho)
    clear HO360
    clear ho hb hg hat
    obtain ⟨Ao109, co109, eo109⟩ := Kd.R_slice HO366.out
    (first | subst eo109 | (injection eo109 with f1_ f2_ f3_; have f4_ := f1_.symm; have f5_ := f3_.symm; clear f1_ f2_ f3_; subst f4_; subst f5_))
    refine hK.out _ _ ⟨(zL BK331.out 0).trans rfl, (zL BK331.out 1).trans rfl, (zL BK331.out 2).trans rfl, (zL BK331.out 3).trans rfl, (zL BK331.out 4).trans rfl, (zL BK331.out 5).trans rfl, (zL BK331.out 6).trans rfl, (zL BK331.out 7).trans rfl, (zL BK331.out 8).trans rfl, (zL BK331.out 9).trans rfl, (zL BK331.out 10).trans rfl, (zL BK331.out 11).trans rfl, (zL BK331.out 12).trans rfl, (zL BK331.out 13).trans rfl, (zL BK331.out 14).trans rfl⟩ (fun hHeld => ?_)
    clear hK K
    refine norm_ (a' := ?_) ?_ ?_
    rotate_left
    · show Act.put _ (some 80) _ = _
      simp only [Act.put, zS, zZ, zC, i64_w, i32_w]
      rfl
    refine one_ (i := 10) (N := some 81) #[T_, T_, T_, T_, T_, T_, T_, T_, T_, T_, T_, F_, F_] rfl rfl (one_of HT_.out (by kernel_rfl)) (by decide) (fun K hK => ?_)
    refine goes_ Try.func8 (by kernel_rfl) rfl #[.slice Ao109 y364.length co109] (by rfl) rfl rfl (by (try simp only [List.map_toArray, List.map_cons, List.map_nil]); first | done | rfl | (simp only [List.length_drop, List.length_take]; rfl)) ?_
    with_reducible refine (past_Fits.calls k _ _ y364 t367 _ ?side1 ?side2 A93.out).mono ?_
    (case side1 => repeat (first | exact (Kd.R_reads' HO366.out).2.2 | (with_reducible refine Kd.C_alloc ?_ _) | (with_reducible refine Kd.C_drewN ?_ _) | (with_reducible refine Kd.C_drew ?_)))
    (case side2 => exact (Kd.R_reads' HO366.out).2.1)
    rintro e w110 ⟨rfl, hb⟩
    refine ⟨_, rfl, ?_⟩
    replace HO363 := zM (Kd.R_below (rl_ HO363) hb)
    replace HO366 := zM (Kd.R_below (rl_ HO366) hb)
    replace BK331 := zM (bb_ BK331 hb)
    replace HB := zM (zB bel_ hb)
    (try clear hb)
    (try clear hb2)
    (try clear hk)
    (try clear hi)
    refine hK.out _ _ ⟨(zL BK331.out 0).trans rfl, (zL BK331.out 1).trans rfl, (zL BK331.out 2).trans rfl, (zL BK331.out 3).trans rfl, (zL BK331.out 4).trans rfl, (zL BK331.out 5).trans rfl, (zL BK331.out 6).trans rfl, (zL BK331.out 7).trans rfl, (zL BK331.out 8).trans rfl, (zL BK331.out 9).trans rfl, (zL BK331.out 10).trans rfl, (zL BK331.out 11).trans rfl, (zL BK331.out 12).trans rfl, (zL BK331.out 13).trans rfl, (zL BK331.out 14).trans rfl⟩ (fun hHeld => ?_)
    clear hK K
    refine norm_ (a' := ?_) ?_ ?_
    rotate_left
    · show Act.put _ (some 81) _ = _
      simp only [Act.put, zS, zZ, zC, i64_w, i32_w]
      rfl
    refine pure_ (i := 11) (N := some 82) (v := ?_) (a' := ?_) #[T_, T_, T_, T_, T_, T_, T_, T_, T_, T_, T_, T_, F_] rfl rfl (any_of HT_.out (by kernel_rfl)) (fun _ _ _ h => h) (Or.inl ⟨by rfl, ?_⟩) ?_ ?_
    rotate_left
    · intro w'
      go_simp
      with_reducible rfl
    rotate_left
    · simp only [Act.put, zS, zZ, zC, i64_w, i32_w]
      rfl
    refine pure_ (i := 12) (N := some 6) (v := ?_) (a' := ?_) #[T_, T_, T_, T_, T_, T_, T_, T_, T_, T_, T_, T_, T_] rfl rfl (any_of HT_.out (by kernel_rfl)) (fun _ _ _ h => h) (Or.inl ⟨by rfl, ?_⟩) ?_ ?_
    rotate_left
    · intro w'
      go_simp
      with_reducible rfl
    rotate_left
    · simp only [Act.put, zS, zZ, zC, i64_w, i32_w]
      rfl
    refine done_ (done_of HT_.out (by kernel_rfl)) ?_
    try go_wp2
    go_ret
    exact ⟨by first | rfl | (simp [errW_none, errW_some] <;> rfl) | (simp [*, errW_none, errW_some] <;> rfl), bel_⟩
  rw [if_pos c10] at H
  have c10b0 : decide (0 ≤ t333) = true := decide_eq_true c10
  clear c10
  by_cases c11 : 0 ≤ a1
  rotate_left
  · rw [if_neg c11] at H
    exact absurd H (by simp)
  rw [if_pos c11] at H
  have c11b0 : decide (0 ≤ a1) = true := decide_eq_true c11
  clear c11
  by_cases c12 : a1 < (l0.length : Int)
  rotate_left
  · rw [if_neg c12] at H
    exact absurd H (by simp)
  rw [if_pos c12] at H
  have c12b0 : decide (a1 < (l0.length : Int)) = true := decide_eq_true c12
  clear c12
  by_cases c13 : 0 ≤ t333
  rotate_left
  · rw [if_neg c13] at H
    exact absurd H (by simp)
  rw [if_pos c13] at H
  have c13b0 : decide (0 ≤ t333) = true := decide_eq_true c13
  clear c13
  by_cases c14 : t333 < (l0.length : Int)
  rotate_left
  · rw [if_neg c14] at H
    exact absurd H (by simp)
  rw [if_pos c14] at H
  have c14b0 : decide (t333 < (l0.length : Int)) = true := decide_eq_true c14
  clear c14
  have HC15 := zM H
  clear H
  go_enter Try.func6, Try.ntmps6
  try go_wp2_with (first | ((with_reducible refine gld_ (t := 35) ?_); (try (refine gate_guard (by rfl) ?_; dsimp only)); first | refine wl15_ rfl 35 _ rfl rfl Try.underlying35 rfl (by kernel_rfl) ?_ | refine wlr15_ rfl 35 _ rfl rfl Try.underlying35 rfl (by kernel_rfl) ?_) | ((with_reducible refine gst_ (t := 35) ?_); refine ws15_ rfl 35 _ _ rfl rfl rfl (by kernel_rfl) ?_) | ((with_reducible refine gate_dst (N := 5) rfl ?_); (try (refine gate_guard (by rfl) ?_; dsimp only)); refine box_event ?hg (N := 5) ?hd (cs := #[.int .i64 a2_0, .int .i64 a2_1, .int .i64 a2_2, .int .i64 a2_3, .int .i64 a2_4, .float .f64 a2_5, .int .i64 a2_6, .int .i64 a2_7, .int .i64 a2_8, .int .i64 a2_9, .int .i64 a2_10, .int .i64 a2_11, .int .i64 a2_12, .int .i64 a2_13, .float .f64 a2_14]) (t := 35) ?hr ?_; (case hd => rfl); (case hg => rfl); (case hr => first | (go_simp; done) | (go_simp; rfl)); intro gb331 hg w16 hbox hb; have BK331 := zM (hbox); have GW331 := zM (bs_ hg); have GE331 := zM (bs_ hg); replace HB := zM (zB bel_ hb); clear hb hbox hg) | ((with_reducible refine gate_callee (f := 7) rfl ?_); refine goL_ (some 10) Try.func7 #[] ?_; (with_reducible refine (ropewaylaw21_pastAlive.calls k  true _ A4.out).mono ?_); rintro e w17 ⟨rfl, hb⟩; refine ⟨_, rfl, ?_⟩; replace BK331 := zM (bb_ BK331 hb); replace HB := zM (zB bel_ hb); (try clear hb); (try clear hb2); (try clear hk); (try clear hi)) | ((with_reducible refine gate_callee (f := 13) rfl ?_); refine goL_ (some 17) Try.func13 #[.slice A0 l0.length c0, .int .i64 a1] ?_; (with_reducible refine (past_Source.calls k _ _ l0 a1 t333 _ ?side1 ?side2 A9.out).mono ?_); (case side1 => repeat (first | exact (Kd.C_below HR0.out HB.out) | (with_reducible refine Kd.C_alloc ?_ _) | (with_reducible refine Kd.C_drewN ?_ _) | (with_reducible refine Kd.C_drew ?_))); (case side2 => exact HC0.out); rintro e w18 ⟨rfl, hb⟩; refine ⟨_, rfl, ?_⟩; replace BK331 := zM (bb_ BK331 hb); replace HB := zM (zB bel_ hb); (try clear hb); (try clear hb2); (try clear hk); (try clear hi)))
  replace BK331 := zM (zD BK331.out)
  replace HB := zM (below_drew1 HB.out)
  have p334 : 0 ≤ (a1 : Int) := of_decide_eq_true (by first | (with_reducible assumption) | assumption)
  have q334 : a1 < (l0.length : Int) := of_decide_eq_true (by first | (with_reducible assumption) | assumption)
  obtain ⟨ad334, e334, hx334_0, hx334_1, hx334_2, hx334_3, hx334_4, hx334_5, hx334_6, hx334_7, hx334_8, hx334_9, hx334_10, hx334_11, hx334_12, hx334_13, hx334_14⟩ := at_T35 HR0.out a1 p334 q334
  have hw334_14 := hx334_14
  have hw334_13 := hx334_13
  have hw334_12 := hx334_12
  have hw334_11 := hx334_11
  have hw334_10 := hx334_10
  have hw334_9 := hx334_9
  have hw334_8 := hx334_8
  have hw334_7 := hx334_7
  have hw334_6 := hx334_6
  have hw334_5 := hx334_5
  have hw334_4 := hx334_4
  have hw334_3 := hx334_3
  have hw334_2 := hx334_2
  have hw334_1 := hx334_1
  have hw334_0 := hx334_0
  cases e334
  replace hx334_0 := (HB.out.cell (World.block_lt_of_cell? w _ hx334_0)).trans hx334_0
  replace hx334_1 := (HB.out.cell (World.block_lt_of_cell? w _ hx334_1)).trans hx334_1
  replace hx334_2 := (HB.out.cell (World.block_lt_of_cell? w _ hx334_2)).trans hx334_2
  replace hx334_3 := (HB.out.cell (World.block_lt_of_cell? w _ hx334_3)).trans hx334_3
  replace hx334_4 := (HB.out.cell (World.block_lt_of_cell? w _ hx334_4)).trans hx334_4
  replace hx334_5 := (HB.out.cell (World.block_lt_of_cell? w _ hx334_5)).trans hx334_5
  replace hx334_6 := (HB.out.cell (World.block_lt_of_cell? w _ hx334_6)).trans hx334_6
  replace hx334_7 := (HB.out.cell (World.block_lt_of_cell? w _ hx334_7)).trans hx334_7
  replace hx334_8 := (HB.out.cell (World.block_lt_of_cell? w _ hx334_8)).trans hx334_8
  replace hx334_9 := (HB.out.cell (World.block_lt_of_cell? w _ hx334_9)).trans hx334_9
  replace hx334_10 := (HB.out.cell (World.block_lt_of_cell? w _ hx334_10)).trans hx334_10
  replace hx334_11 := (HB.out.cell (World.block_lt_of_cell? w _ hx334_11)).trans hx334_11
  replace hx334_12 := (HB.out.cell (World.block_lt_of_cell? w _ hx334_12)).trans hx334_12
  replace hx334_13 := (HB.out.cell (World.block_lt_of_cell? w _ hx334_13)).trans hx334_13
  replace hx334_14 := (HB.out.cell (World.block_lt_of_cell? w _ hx334_14)).trans hx334_14
  replace p334 := eq_true p334
  replace q334 := eq_true q334
  have p335 : 0 ≤ (t333 : Int) := of_decide_eq_true (by first | (with_reducible assumption) | assumption)
  have q335 : t333 < (l0.length : Int) := of_decide_eq_true (by first | (with_reducible assumption) | assumption)
  obtain ⟨ad335, e335, hx335_0, hx335_1, hx335_2, hx335_3, hx335_4, hx335_5, hx335_6, hx335_7, hx335_8, hx335_9, hx335_10, hx335_11, hx335_12, hx335_13, hx335_14⟩ := at_T35 HR0.out t333 p335 q335
  have hw335_14 := hx335_14
  have hw335_13 := hx335_13
  have hw335_12 := hx335_12
  have hw335_11 := hx335_11
  have hw335_10 := hx335_10
  have hw335_9 := hx335_9
  have hw335_8 := hx335_8
  have hw335_7 := hx335_7
  have hw335_6 := hx335_6
  have hw335_5 := hx335_5
  have hw335_4 := hx335_4
  have hw335_3 := hx335_3
  have hw335_2 := hx335_2
  have hw335_1 := hx335_1
  have hw335_0 := hx335_0
  obtain rfl : ad334 = ad335 := (by injection e335)
  replace hx335_0 := (HB.out.cell (World.block_lt_of_cell? w _ hx335_0)).trans hx335_0
  replace hx335_1 := (HB.out.cell (World.block_lt_of_cell? w _ hx335_1)).trans hx335_1
  replace hx335_2 := (HB.out.cell (World.block_lt_of_cell? w _ hx335_2)).trans hx335_2
  replace hx335_3 := (HB.out.cell (World.block_lt_of_cell? w _ hx335_3)).trans hx335_3
  replace hx335_4 := (HB.out.cell (World.block_lt_of_cell? w _ hx335_4)).trans hx335_4
  replace hx335_5 := (HB.out.cell (World.block_lt_of_cell? w _ hx335_5)).trans hx335_5
  replace hx335_6 := (HB.out.cell (World.block_lt_of_cell? w _ hx335_6)).trans hx335_6
  replace hx335_7 := (HB.out.cell (World.block_lt_of_cell? w _ hx335_7)).trans hx335_7
  replace hx335_8 := (HB.out.cell (World.block_lt_of_cell? w _ hx335_8)).trans hx335_8
  replace hx335_9 := (HB.out.cell (World.block_lt_of_cell? w _ hx335_9)).trans hx335_9
  replace hx335_10 := (HB.out.cell (World.block_lt_of_cell? w _ hx335_10)).trans hx335_10
  replace hx335_11 := (HB.out.cell (World.block_lt_of_cell? w _ hx335_11)).trans hx335_11
  replace hx335_12 := (HB.out.cell (World.block_lt_of_cell? w _ hx335_12)).trans hx335_12
  replace hx335_13 := (HB.out.cell (World.block_lt_of_cell? w _ hx335_13)).trans hx335_13
  replace hx335_14 := (HB.out.cell (World.block_lt_of_cell? w _ hx335_14)).trans hx335_14
  replace p335 := eq_true p335
  replace q335 := eq_true q335
  refine start_ (n := 12) (S := fun w' => w'.cell? (ad334.add ((a1).toNat * 15)) = some (.int .i64 ((rd_T35 l0 a1).f0)) ∧ w'.cell? ⟨(ad334.add ((a1).toNat * 15)).block, (ad334.add ((a1).toNat * 15)).off + 1, none⟩ = some (.int .i64 ((rd_T35 l0 a1).f1)) ∧ w'.cell? ⟨(ad334.add ((a1).toNat * 15)).block, (ad334.add ((a1).toNat * 15)).off + 2, none⟩ = some (.int .i64 ((rd_T35 l0 a1).f2)) ∧ w'.cell? ⟨(ad334.add ((a1).toNat * 15)).block, (ad334.add ((a1).toNat * 15)).off + 3, none⟩ = some (.int .i64 ((rd_T35 l0 a1).f3.f0)) ∧ w'.cell? ⟨(ad334.add ((a1).toNat * 15)).block, (ad334.add ((a1).toNat * 15)).off + 4, none⟩ = some (.int .i64 ((rd_T35 l0 a1).f3.f1)) ∧ w'.cell? ⟨(ad334.add ((a1).toNat * 15)).block, (ad334.add ((a1).toNat * 15)).off + 5, none⟩ = some (.float .f64 ((rd_T35 l0 a1).f3.f2)) ∧ w'.cell? ⟨(ad334.add ((a1).toNat * 15)).block, (ad334.add ((a1).toNat * 15)).off + 6, none⟩ = some (.int .i64 ((rd_T35 l0 a1).f3.f3.f0)) ∧ w'.cell? ⟨(ad334.add ((a1).toNat * 15)).block, (ad334.add ((a1).toNat * 15)).off + 7, none⟩ = some (.int .i64 ((rd_T35 l0 a1).f3.f3.f1)) ∧ w'.cell? ⟨(ad334.add ((a1).toNat * 15)).block, (ad334.add ((a1).toNat * 15)).off + 8, none⟩ = some (.int .i64 ((rd_T35 l0 a1).f4.f0)) ∧ w'.cell? ⟨(ad334.add ((a1).toNat * 15)).block, (ad334.add ((a1).toNat * 15)).off + 9, none⟩ = some (.int .i64 ((rd_T35 l0 a1).f4.f1.f0)) ∧ w'.cell? ⟨(ad334.add ((a1).toNat * 15)).block, (ad334.add ((a1).toNat * 15)).off + 10, none⟩ = some (.int .i64 ((rd_T35 l0 a1).f4.f1.f1)) ∧ w'.cell? ⟨(ad334.add ((a1).toNat * 15)).block, (ad334.add ((a1).toNat * 15)).off + 11, none⟩ = some (.int .i64 ((rd_T35 l0 a1).f4.f2.f0)) ∧ w'.cell? ⟨(ad334.add ((a1).toNat * 15)).block, (ad334.add ((a1).toNat * 15)).off + 12, none⟩ = some (.int .i64 ((rd_T35 l0 a1).f4.f2.f1.f0)) ∧ w'.cell? ⟨(ad334.add ((a1).toNat * 15)).block, (ad334.add ((a1).toNat * 15)).off + 13, none⟩ = some (.int .i64 ((rd_T35 l0 a1).f4.f2.f1.f1)) ∧ w'.cell? ⟨(ad334.add ((a1).toNat * 15)).block, (ad334.add ((a1).toNat * 15)).off + 14, none⟩ = some (.float .f64 ((rd_T35 l0 a1).f4.f2.f2)) ∧ w'.cell? (ad334.add ((t333).toNat * 15)) = some (.int .i64 ((rd_T35 l0 t333).f0)) ∧ w'.cell? ⟨(ad334.add ((t333).toNat * 15)).block, (ad334.add ((t333).toNat * 15)).off + 1, none⟩ = some (.int .i64 ((rd_T35 l0 t333).f1)) ∧ w'.cell? ⟨(ad334.add ((t333).toNat * 15)).block, (ad334.add ((t333).toNat * 15)).off + 2, none⟩ = some (.int .i64 ((rd_T35 l0 t333).f2)) ∧ w'.cell? ⟨(ad334.add ((t333).toNat * 15)).block, (ad334.add ((t333).toNat * 15)).off + 3, none⟩ = some (.int .i64 ((rd_T35 l0 t333).f3.f0)) ∧ w'.cell? ⟨(ad334.add ((t333).toNat * 15)).block, (ad334.add ((t333).toNat * 15)).off + 4, none⟩ = some (.int .i64 ((rd_T35 l0 t333).f3.f1)) ∧ w'.cell? ⟨(ad334.add ((t333).toNat * 15)).block, (ad334.add ((t333).toNat * 15)).off + 5, none⟩ = some (.float .f64 ((rd_T35 l0 t333).f3.f2)) ∧ w'.cell? ⟨(ad334.add ((t333).toNat * 15)).block, (ad334.add ((t333).toNat * 15)).off + 6, none⟩ = some (.int .i64 ((rd_T35 l0 t333).f3.f3.f0)) ∧ w'.cell? ⟨(ad334.add ((t333).toNat * 15)).block, (ad334.add ((t333).toNat * 15)).off + 7, none⟩ = some (.int .i64 ((rd_T35 l0 t333).f3.f3.f1)) ∧ w'.cell? ⟨(ad334.add ((t333).toNat * 15)).block, (ad334.add ((t333).toNat * 15)).off + 8, none⟩ = some (.int .i64 ((rd_T35 l0 t333).f4.f0)) ∧ w'.cell? ⟨(ad334.add ((t333).toNat * 15)).block, (ad334.add ((t333).toNat * 15)).off + 9, none⟩ = some (.int .i64 ((rd_T35 l0 t333).f4.f1.f0)) ∧ w'.cell? ⟨(ad334.add ((t333).toNat * 15)).block, (ad334.add ((t333).toNat * 15)).off + 10, none⟩ = some (.int .i64 ((rd_T35 l0 t333).f4.f1.f1)) ∧ w'.cell? ⟨(ad334.add ((t333).toNat * 15)).block, (ad334.add ((t333).toNat * 15)).off + 11, none⟩ = some (.int .i64 ((rd_T35 l0 t333).f4.f2.f0)) ∧ w'.cell? ⟨(ad334.add ((t333).toNat * 15)).block, (ad334.add ((t333).toNat * 15)).off + 12, none⟩ = some (.int .i64 ((rd_T35 l0 t333).f4.f2.f1.f0)) ∧ w'.cell? ⟨(ad334.add ((t333).toNat * 15)).block, (ad334.add ((t333).toNat * 15)).off + 13, none⟩ = some (.int .i64 ((rd_T35 l0 t333).f4.f2.f1.f1)) ∧ w'.cell? ⟨(ad334.add ((t333).toNat * 15)).block, (ad334.add ((t333).toNat * 15)).off + 14, none⟩ = some (.float .f64 ((rd_T35 l0 t333).f4.f2.f2))) (ds := []) #[F_, F_, F_, F_, F_, F_, F_, F_, F_, F_, F_, F_] (by kernel_rfl) rfl rfl ⟨(hb_ HB hw334_0), (hb_ HB hw334_1), (hb_ HB hw334_2), (hb_ HB hw334_3), (hb_ HB hw334_4), (hb_ HB hw334_5), (hb_ HB hw334_6), (hb_ HB hw334_7), (hb_ HB hw334_8), (hb_ HB hw334_9), (hb_ HB hw334_10), (hb_ HB hw334_11), (hb_ HB hw334_12), (hb_ HB hw334_13), (hb_ HB hw334_14), (hb_ HB hw335_0), (hb_ HB hw335_1), (hb_ HB hw335_2), (hb_ HB hw335_3), (hb_ HB hw335_4), (hb_ HB hw335_5), (hb_ HB hw335_6), (hb_ HB hw335_7), (hb_ HB hw335_8), (hb_ HB hw335_9), (hb_ HB hw335_10), (hb_ HB hw335_11), (hb_ HB hw335_12), (hb_ HB hw335_13), (hb_ HB hw335_14)⟩ (fun hHeld => ?_); refine with_tabW ropewaylaw21_PastSources.tab7 ropewaylaw21_PastSources.bits7 (fun HT_ HW_ => ?_)
  generalize w18.drew = w19 at BK331 HB hx334_0 hx334_1 hx334_10 hx334_11 hx334_12 hx334_13 hx334_14 hx334_2 hx334_3 hx334_4 hx334_5 hx334_6 hx334_7 hx334_8 hx334_9 hx335_0 hx335_1 hx335_10 hx335_11 hx335_12 hx335_13 hx335_14 hx335_2 hx335_3 hx335_4 hx335_5 hx335_6 hx335_7 hx335_8 hx335_9 hHeld ⊢
  refine pure_ (i := 0) (N := some 20) (v := ?_) (a' := ?_) #[T_, F_, F_, F_, F_, F_, F_, F_, F_, F_, F_, F_] rfl rfl (any_of HT_.out (by kernel_rfl)) (fun _ _ _ h => h) (Or.inl ⟨by rfl, ?_⟩) ?_ ?_
  rotate_left
  · intro w'
    go_simp
    with_reducible rfl
  rotate_left
  · simp only [Act.put, zS, zZ, zC, i64_w, i32_w]
    rfl
  refine pure_ (i := 1) (N := some 21) (v := ?_) (a' := ?_) #[T_, T_, F_, F_, F_, F_, F_, F_, F_, F_, F_, F_] rfl rfl (any_of HT_.out (by kernel_rfl)) (fun _ _ _ h => h) (Or.inl ⟨by rfl, ?_⟩) ?_ ?_
  rotate_left
  · intro w'
    go_simp
    with_reducible rfl
  rotate_left
  · simp only [Act.put, zS, zZ, zC, i64_w, i32_w]
    rfl
  refine pure_ (i := 2) (N := some 22) (v := ?_) (a' := ?_) #[T_, T_, T_, F_, F_, F_, F_, F_, F_, F_, F_, F_] rfl rfl (any_of HT_.out (by kernel_rfl)) (fun _ _ _ h => h) (Or.inl ⟨by rfl, ?_⟩) ?_ ?_
  rotate_left
  · intro w'
    go_simp
    with_reducible rfl
  rotate_left
  · simp only [Act.put, zS, zZ, zC, i64_w, i32_w]
    rfl
  refine pure_ (i := 4) (N := some 24) (v := ?_) (a' := ?_) #[T_, T_, T_, F_, T_, F_, F_, F_, F_, F_, F_, F_] rfl rfl (any_of HT_.out (by kernel_rfl)) (fun _ _ _ h => h) (Or.inl ⟨by rfl, ?_⟩) ?_ ?_
  rotate_left
  · intro w'
    go_simp
    with_reducible rfl
  rotate_left
  · simp only [Act.put, zS, zZ, zC, i64_w, i32_w]
    rfl
  refine pure_ (i := 5) (N := some 25) (v := ?_) (a' := ?_) #[T_, T_, T_, F_, T_, T_, F_, F_, F_, F_, F_, F_] rfl rfl (any_of HT_.out (by kernel_rfl)) (fun _ _ _ h => h) (Or.inl ⟨by rfl, ?_⟩) ?_ ?_
  rotate_left
  · intro w'
    go_simp
    with_reducible rfl
  rotate_left
  · simp only [Act.put, zS, zZ, zC, i64_w, i32_w]
    rfl
  refine pure_ (i := 6) (N := some 26) (v := ?_) (a' := ?_) #[T_, T_, T_, F_, T_, T_, T_, F_, F_, F_, F_, F_] rfl rfl (any_of HT_.out (by kernel_rfl)) (fun _ _ _ h => h) (Or.inl ⟨by rfl, ?_⟩) ?_ ?_
  rotate_left
  · intro w'
    go_simp
    with_reducible rfl
  rotate_left
  · simp only [Act.put, zS, zZ, zC, i64_w, i32_w]
    rfl
  refine take_ (i := 3) (N := some 23) (v := ?_) (a' := ?_) #[T_, T_, T_, T_, T_, T_, T_, F_, F_, F_, F_, F_] rfl rfl (take_ofW HT_.out HW_.out (by kernel_rfl)) (fun _ _ _ h => h) (Or.inl ⟨by rfl, ?_⟩) hHeld ?_ ?_
  rotate_left
  · rintro w' ⟨s0, s1, s2, s3, s4, s5, s6, s7, s8, s9, s10, s11, s12, s13, s14, s15, s16, s17, s18, s19, s20, s21, s22, s23, s24, s25, s26, s27, s28, s29⟩
    first | exact xl15_ rfl rfl Try.underlying35 rfl (by kernel_rfl) s0 s1 s2 s3 s4 s5 s6 s7 s8 s9 s10 s11 s12 s13 s14 | exact xl15_ rfl rfl Try.underlying35 rfl (by kernel_rfl) s15 s16 s17 s18 s19 s20 s21 s22 s23 s24 s25 s26 s27 s28 s29 | (go_simp; with_reducible rfl)
  rotate_left
  · simp only [Act.put, zS, zZ, zC, i64_w, i32_w]
    rfl
  refine take_ (i := 7) (N := some 27) (v := ?_) (a' := ?_) #[T_, T_, T_, T_, T_, T_, T_, T_, F_, F_, F_, F_] rfl rfl (take_ofW HT_.out HW_.out (by kernel_rfl)) (fun _ _ _ h => h) (Or.inl ⟨by rfl, ?_⟩) hHeld ?_ ?_
  rotate_left
  · rintro w' ⟨s0, s1, s2, s3, s4, s5, s6, s7, s8, s9, s10, s11, s12, s13, s14, s15, s16, s17, s18, s19, s20, s21, s22, s23, s24, s25, s26, s27, s28, s29⟩
    first | exact xl15_ rfl rfl Try.underlying35 rfl (by kernel_rfl) s0 s1 s2 s3 s4 s5 s6 s7 s8 s9 s10 s11 s12 s13 s14 | exact xl15_ rfl rfl Try.underlying35 rfl (by kernel_rfl) s15 s16 s17 s18 s19 s20 s21 s22 s23 s24 s25 s26 s27 s28 s29 | (go_simp; with_reducible rfl)
  rotate_left
  · simp only [Act.put, zS, zZ, zC, i64_w, i32_w]
    rfl
  refine join_ (σ := Nat × Nat) 2 #[T_, T_, T_, T_, T_, T_, T_, T_, T_, T_, F_, F_] (fun s_ => [(8, .pointer (some ⟨s_.1, 0, none⟩)), (9, .pointer (some ⟨s_.2, 0, none⟩))]) (fun s_ w' => (w'.cell? (ad334.add ((a1).toNat * 15)) = some (.int .i64 ((rd_T35 l0 a1).f0)) ∧ w'.cell? ⟨(ad334.add ((a1).toNat * 15)).block, (ad334.add ((a1).toNat * 15)).off + 1, none⟩ = some (.int .i64 ((rd_T35 l0 a1).f1)) ∧ w'.cell? ⟨(ad334.add ((a1).toNat * 15)).block, (ad334.add ((a1).toNat * 15)).off + 2, none⟩ = some (.int .i64 ((rd_T35 l0 a1).f2)) ∧ w'.cell? ⟨(ad334.add ((a1).toNat * 15)).block, (ad334.add ((a1).toNat * 15)).off + 3, none⟩ = some (.int .i64 ((rd_T35 l0 a1).f3.f0)) ∧ w'.cell? ⟨(ad334.add ((a1).toNat * 15)).block, (ad334.add ((a1).toNat * 15)).off + 4, none⟩ = some (.int .i64 ((rd_T35 l0 a1).f3.f1)) ∧ w'.cell? ⟨(ad334.add ((a1).toNat * 15)).block, (ad334.add ((a1).toNat * 15)).off + 5, none⟩ = some (.float .f64 ((rd_T35 l0 a1).f3.f2)) ∧ w'.cell? ⟨(ad334.add ((a1).toNat * 15)).block, (ad334.add ((a1).toNat * 15)).off + 6, none⟩ = some (.int .i64 ((rd_T35 l0 a1).f3.f3.f0)) ∧ w'.cell? ⟨(ad334.add ((a1).toNat * 15)).block, (ad334.add ((a1).toNat * 15)).off + 7, none⟩ = some (.int .i64 ((rd_T35 l0 a1).f3.f3.f1)) ∧ w'.cell? ⟨(ad334.add ((a1).toNat * 15)).block, (ad334.add ((a1).toNat * 15)).off + 8, none⟩ = some (.int .i64 ((rd_T35 l0 a1).f4.f0)) ∧ w'.cell? ⟨(ad334.add ((a1).toNat * 15)).block, (ad334.add ((a1).toNat * 15)).off + 9, none⟩ = some (.int .i64 ((rd_T35 l0 a1).f4.f1.f0)) ∧ w'.cell? ⟨(ad334.add ((a1).toNat * 15)).block, (ad334.add ((a1).toNat * 15)).off + 10, none⟩ = some (.int .i64 ((rd_T35 l0 a1).f4.f1.f1)) ∧ w'.cell? ⟨(ad334.add ((a1).toNat * 15)).block, (ad334.add ((a1).toNat * 15)).off + 11, none⟩ = some (.int .i64 ((rd_T35 l0 a1).f4.f2.f0)) ∧ w'.cell? ⟨(ad334.add ((a1).toNat * 15)).block, (ad334.add ((a1).toNat * 15)).off + 12, none⟩ = some (.int .i64 ((rd_T35 l0 a1).f4.f2.f1.f0)) ∧ w'.cell? ⟨(ad334.add ((a1).toNat * 15)).block, (ad334.add ((a1).toNat * 15)).off + 13, none⟩ = some (.int .i64 ((rd_T35 l0 a1).f4.f2.f1.f1)) ∧ w'.cell? ⟨(ad334.add ((a1).toNat * 15)).block, (ad334.add ((a1).toNat * 15)).off + 14, none⟩ = some (.float .f64 ((rd_T35 l0 a1).f4.f2.f2)) ∧ w'.cell? (ad334.add ((t333).toNat * 15)) = some (.int .i64 ((rd_T35 l0 t333).f0)) ∧ w'.cell? ⟨(ad334.add ((t333).toNat * 15)).block, (ad334.add ((t333).toNat * 15)).off + 1, none⟩ = some (.int .i64 ((rd_T35 l0 t333).f1)) ∧ w'.cell? ⟨(ad334.add ((t333).toNat * 15)).block, (ad334.add ((t333).toNat * 15)).off + 2, none⟩ = some (.int .i64 ((rd_T35 l0 t333).f2)) ∧ w'.cell? ⟨(ad334.add ((t333).toNat * 15)).block, (ad334.add ((t333).toNat * 15)).off + 3, none⟩ = some (.int .i64 ((rd_T35 l0 t333).f3.f0)) ∧ w'.cell? ⟨(ad334.add ((t333).toNat * 15)).block, (ad334.add ((t333).toNat * 15)).off + 4, none⟩ = some (.int .i64 ((rd_T35 l0 t333).f3.f1)) ∧ w'.cell? ⟨(ad334.add ((t333).toNat * 15)).block, (ad334.add ((t333).toNat * 15)).off + 5, none⟩ = some (.float .f64 ((rd_T35 l0 t333).f3.f2)) ∧ w'.cell? ⟨(ad334.add ((t333).toNat * 15)).block, (ad334.add ((t333).toNat * 15)).off + 6, none⟩ = some (.int .i64 ((rd_T35 l0 t333).f3.f3.f0)) ∧ w'.cell? ⟨(ad334.add ((t333).toNat * 15)).block, (ad334.add ((t333).toNat * 15)).off + 7, none⟩ = some (.int .i64 ((rd_T35 l0 t333).f3.f3.f1)) ∧ w'.cell? ⟨(ad334.add ((t333).toNat * 15)).block, (ad334.add ((t333).toNat * 15)).off + 8, none⟩ = some (.int .i64 ((rd_T35 l0 t333).f4.f0)) ∧ w'.cell? ⟨(ad334.add ((t333).toNat * 15)).block, (ad334.add ((t333).toNat * 15)).off + 9, none⟩ = some (.int .i64 ((rd_T35 l0 t333).f4.f1.f0)) ∧ w'.cell? ⟨(ad334.add ((t333).toNat * 15)).block, (ad334.add ((t333).toNat * 15)).off + 10, none⟩ = some (.int .i64 ((rd_T35 l0 t333).f4.f1.f1)) ∧ w'.cell? ⟨(ad334.add ((t333).toNat * 15)).block, (ad334.add ((t333).toNat * 15)).off + 11, none⟩ = some (.int .i64 ((rd_T35 l0 t333).f4.f2.f0)) ∧ w'.cell? ⟨(ad334.add ((t333).toNat * 15)).block, (ad334.add ((t333).toNat * 15)).off + 12, none⟩ = some (.int .i64 ((rd_T35 l0 t333).f4.f2.f1.f0)) ∧ w'.cell? ⟨(ad334.add ((t333).toNat * 15)).block, (ad334.add ((t333).toNat * 15)).off + 13, none⟩ = some (.int .i64 ((rd_T35 l0 t333).f4.f2.f1.f1)) ∧ w'.cell? ⟨(ad334.add ((t333).toNat * 15)).block, (ad334.add ((t333).toNat * 15)).off + 14, none⟩ = some (.float .f64 ((rd_T35 l0 t333).f4.f2.f2))) ∧ (w'.heap[gb331]? = some (.cells #[.int .i64 a2_0, .int .i64 a2_1, .int .i64 a2_2, .int .i64 a2_3, .int .i64 a2_4, .float .f64 a2_5, .int .i64 a2_6, .int .i64 a2_7, .int .i64 a2_8, .int .i64 a2_9, .int .i64 a2_10, .int .i64 a2_11, .int .i64 a2_12, .int .i64 a2_13, .float .f64 a2_14] 35 (0, 0))) ∧ (w'.heap[s_.1]? = some (.cells #[.int .i64 0, .int .i64 0, .int .i64 0, .int .i64 0, .int .i64 0, .float .f64 0, .int .i64 0, .int .i64 0, .int .i64 0, .int .i64 0, .int .i64 0, .int .i64 0, .int .i64 0, .int .i64 0, .float .f64 0] 35 (0, 0))) ∧ (w'.heap[s_.2]? = some (.cells #[.int .i64 0, .int .i64 0, .int .i64 0, .int .i64 0, .int .i64 0, .float .f64 0, .int .i64 0, .int .i64 0, .int .i64 0, .int .i64 0, .int .i64 0, .int .i64 0, .int .i64 0, .int .i64 0, .float .f64 0] 35 (0, 0))) ∧ (w.heap.size ≤ s_.1) ∧ (w.heap.size ≤ s_.1) ∧ (gb331 ≠ s_.1) ∧ (s_.1 ≠ gb331) ∧ (s_.2 ≠ s_.1) ∧ (s_.1 ≠ s_.2) ∧ (w.heap.size ≤ s_.2) ∧ (w.heap.size ≤ s_.2) ∧ (gb331 ≠ s_.2) ∧ (s_.2 ≠ gb331) ∧ (Below w.heap.size w w')) ?_ ?_
  rotate_left
  · intro hCont
    refine two_ (i := 8) (j := 9) (Ni := some 8) (Nj := some 9) #[T_, T_, T_, T_, T_, T_, T_, T_, T_, F_, F_, F_] #[T_, T_, T_, T_, T_, T_, T_, T_, F_, T_, F_, F_] rfl rfl rfl rfl (two_of HT_.out (by kernel_rfl)) (by decide) (by decide) (fun K hK => ?_) (fun K hK => ?_)
    · skip
      refine box_step ?hg (N := 8) ?hd (cs := #[.int .i64 0, .int .i64 0, .int .i64 0, .int .i64 0, .int .i64 0, .float .f64 0, .int .i64 0, .int .i64 0, .int .i64 0, .int .i64 0, .int .i64 0, .int .i64 0, .int .i64 0, .int .i64 0, .float .f64 0]) (t := 35) ?hr ?_; (case hd => rfl); (case hg => rfl); (case hr => first | (go_simp; done) | (go_simp; rfl))
      intro gb336 hg w20 hbox hb
      have BK336 := zM (hbox)
      have GW336 := zM (bs_ hg)
      have GE336 := zM (bs_ hg)
      replace HB := zM (zB bel_ hb)
      have NB331_336 := zM (nl_ BK331 hg)
      have NB336_331 := zM (ng_ BK331 hg)
      replace BK331 := zM (bb_ BK331 hb)
      clear hb hbox hg
      refine hK.out _ _ ⟨(hb_ HB hw334_0), (hb_ HB hw334_1), (hb_ HB hw334_2), (hb_ HB hw334_3), (hb_ HB hw334_4), (hb_ HB hw334_5), (hb_ HB hw334_6), (hb_ HB hw334_7), (hb_ HB hw334_8), (hb_ HB hw334_9), (hb_ HB hw334_10), (hb_ HB hw334_11), (hb_ HB hw334_12), (hb_ HB hw334_13), (hb_ HB hw334_14), (hb_ HB hw335_0), (hb_ HB hw335_1), (hb_ HB hw335_2), (hb_ HB hw335_3), (hb_ HB hw335_4), (hb_ HB hw335_5), (hb_ HB hw335_6), (hb_ HB hw335_7), (hb_ HB hw335_8), (hb_ HB hw335_9), (hb_ HB hw335_10), (hb_ HB hw335_11), (hb_ HB hw335_12), (hb_ HB hw335_13), (hb_ HB hw335_14)⟩ (fun hHeld => ?_)
      clear hK K
      refine norm_ (a' := ?_) ?_ ?_
      rotate_left
      · show Act.put _ (some 8) _ = _
        simp only [Act.put, zS, zZ, zC, i64_w, i32_w]
        rfl
      refine one_ (i := 9) (N := some 9) #[T_, T_, T_, T_, T_, T_, T_, T_, T_, T_, F_, F_] rfl rfl (one_of HT_.out (by kernel_rfl)) (by decide) (fun K hK => ?_)
      refine box_step ?hg (N := 9) ?hd (cs := #[.int .i64 0, .int .i64 0, .int .i64 0, .int .i64 0, .int .i64 0, .float .f64 0, .int .i64 0, .int .i64 0, .int .i64 0, .int .i64 0, .int .i64 0, .int .i64 0, .int .i64 0, .int .i64 0, .float .f64 0]) (t := 35) ?hr ?_; (case hd => rfl); (case hg => rfl); (case hr => first | (go_simp; done) | (go_simp; rfl))
      intro gb337 hg w21 hbox hb
      have BK337 := zM (hbox)
      have GW337 := zM (bs_ hg)
      have GE337 := zM (bs_ hg)
      replace HB := zM (zB bel_ hb)
      have NB331_337 := zM (nl_ BK331 hg)
      have NB337_331 := zM (ng_ BK331 hg)
      replace BK331 := zM (bb_ BK331 hb)
      have NB336_337 := zM (nl_ BK336 hg)
      have NB337_336 := zM (ng_ BK336 hg)
      replace BK336 := zM (bb_ BK336 hb)
      clear hb hbox hg
      refine hK.out _ _ ⟨(hb_ HB hw334_0), (hb_ HB hw334_1), (hb_ HB hw334_2), (hb_ HB hw334_3), (hb_ HB hw334_4), (hb_ HB hw334_5), (hb_ HB hw334_6), (hb_ HB hw334_7), (hb_ HB hw334_8), (hb_ HB hw334_9), (hb_ HB hw334_10), (hb_ HB hw334_11), (hb_ HB hw334_12), (hb_ HB hw334_13), (hb_ HB hw334_14), (hb_ HB hw335_0), (hb_ HB hw335_1), (hb_ HB hw335_2), (hb_ HB hw335_3), (hb_ HB hw335_4), (hb_ HB hw335_5), (hb_ HB hw335_6), (hb_ HB hw335_7), (hb_ HB hw335_8), (hb_ HB hw335_9), (hb_ HB hw335_10), (hb_ HB hw335_11), (hb_ HB hw335_12), (hb_ HB hw335_13), (hb_ HB hw335_14)⟩ (fun hHeld => ?_)
      clear hK K
      refine norm_ (a' := ?_) ?_ ?_
      rotate_left
      · show Act.put _ (some 9) _ = _
        simp only [Act.put, zS, zZ, zC, i64_w, i32_w]
        rfl
      exact norm_ (by simp only [putAll, Act.put, zS, zZ, zC]) (hCont (gb336, gb337) _ ⟨hHeld, blk_, blk_, blk_, GW336.out, GE336.out, NB331_336.out, NB336_331.out, NB337_336.out, NB336_337.out, GW337.out, GE337.out, NB331_337.out, NB337_331.out, bel_⟩)
    skip
    refine box_step ?hg (N := 9) ?hd (cs := #[.int .i64 0, .int .i64 0, .int .i64 0, .int .i64 0, .int .i64 0, .float .f64 0, .int .i64 0, .int .i64 0, .int .i64 0, .int .i64 0, .int .i64 0, .int .i64 0, .int .i64 0, .int .i64 0, .float .f64 0]) (t := 35) ?hr ?_; (case hd => rfl); (case hg => rfl); (case hr => first | (go_simp; done) | (go_simp; rfl))
    intro gb337 hg w20 hbox hb
    have BK337 := zM (hbox)
    have GW337 := zM (bs_ hg)
    have GE337 := zM (bs_ hg)
    replace HB := zM (zB bel_ hb)
    have NB331_337 := zM (nl_ BK331 hg)
    have NB337_331 := zM (ng_ BK331 hg)
    replace BK331 := zM (bb_ BK331 hb)
    clear hb hbox hg
    refine hK.out _ _ ⟨(hb_ HB hw334_0), (hb_ HB hw334_1), (hb_ HB hw334_2), (hb_ HB hw334_3), (hb_ HB hw334_4), (hb_ HB hw334_5), (hb_ HB hw334_6), (hb_ HB hw334_7), (hb_ HB hw334_8), (hb_ HB hw334_9), (hb_ HB hw334_10), (hb_ HB hw334_11), (hb_ HB hw334_12), (hb_ HB hw334_13), (hb_ HB hw334_14), (hb_ HB hw335_0), (hb_ HB hw335_1), (hb_ HB hw335_2), (hb_ HB hw335_3), (hb_ HB hw335_4), (hb_ HB hw335_5), (hb_ HB hw335_6), (hb_ HB hw335_7), (hb_ HB hw335_8), (hb_ HB hw335_9), (hb_ HB hw335_10), (hb_ HB hw335_11), (hb_ HB hw335_12), (hb_ HB hw335_13), (hb_ HB hw335_14)⟩ (fun hHeld => ?_)
    clear hK K
    refine norm_ (a' := ?_) ?_ ?_
    rotate_left
    · show Act.put _ (some 9) _ = _
      simp only [Act.put, zS, zZ, zC, i64_w, i32_w]
      rfl
    refine one_ (i := 8) (N := some 8) #[T_, T_, T_, T_, T_, T_, T_, T_, T_, T_, F_, F_] rfl rfl (one_of HT_.out (by kernel_rfl)) (by decide) (fun K hK => ?_)
    refine box_step ?hg (N := 8) ?hd (cs := #[.int .i64 0, .int .i64 0, .int .i64 0, .int .i64 0, .int .i64 0, .float .f64 0, .int .i64 0, .int .i64 0, .int .i64 0, .int .i64 0, .int .i64 0, .int .i64 0, .int .i64 0, .int .i64 0, .float .f64 0]) (t := 35) ?hr ?_; (case hd => rfl); (case hg => rfl); (case hr => first | (go_simp; done) | (go_simp; rfl))
    intro gb336 hg w21 hbox hb
    have BK336 := zM (hbox)
    have GW336 := zM (bs_ hg)
    have GE336 := zM (bs_ hg)
    replace HB := zM (zB bel_ hb)
    have NB331_336 := zM (nl_ BK331 hg)
    have NB336_331 := zM (ng_ BK331 hg)
    replace BK331 := zM (bb_ BK331 hb)
    have NB337_336 := zM (nl_ BK337 hg)
    have NB336_337 := zM (ng_ BK337 hg)
    replace BK337 := zM (bb_ BK337 hb)
    clear hb hbox hg
    refine hK.out _ _ ⟨(hb_ HB hw334_0), (hb_ HB hw334_1), (hb_ HB hw334_2), (hb_ HB hw334_3), (hb_ HB hw334_4), (hb_ HB hw334_5), (hb_ HB hw334_6), (hb_ HB hw334_7), (hb_ HB hw334_8), (hb_ HB hw334_9), (hb_ HB hw334_10), (hb_ HB hw334_11), (hb_ HB hw334_12), (hb_ HB hw334_13), (hb_ HB hw334_14), (hb_ HB hw335_0), (hb_ HB hw335_1), (hb_ HB hw335_2), (hb_ HB hw335_3), (hb_ HB hw335_4), (hb_ HB hw335_5), (hb_ HB hw335_6), (hb_ HB hw335_7), (hb_ HB hw335_8), (hb_ HB hw335_9), (hb_ HB hw335_10), (hb_ HB hw335_11), (hb_ HB hw335_12), (hb_ HB hw335_13), (hb_ HB hw335_14)⟩ (fun hHeld => ?_)
    clear hK K
    refine norm_ (a' := ?_) ?_ ?_
    rotate_left
    · show Act.put _ (some 8) _ = _
      simp only [Act.put, zS, zZ, zC, i64_w, i32_w]
      rfl
    exact norm_ (by simp only [putAll, Act.put, zS, zZ, zC]) (hCont (gb336, gb337) _ ⟨hHeld, blk_, blk_, blk_, GW336.out, GE336.out, NB331_336.out, NB336_331.out, NB337_336.out, NB336_337.out, GW337.out, GE337.out, NB331_337.out, NB337_331.out, bel_⟩)
  rintro ⟨gb336, gb337⟩ w22 ⟨hS_, h0_, h1_, h2_, h3_, h4_, h5_, h6_, h7_, h8_, h9_, h10_, h11_, h12_, h13_⟩
  replace BK331 : Aside0 (w22.heap[gb331]? = some (.cells #[.int .i64 a2_0, .int .i64 a2_1, .int .i64 a2_2, .int .i64 a2_3, .int .i64 a2_4, .float .f64 a2_5, .int .i64 a2_6, .int .i64 a2_7, .int .i64 a2_8, .int .i64 a2_9, .int .i64 a2_10, .int .i64 a2_11, .int .i64 a2_12, .int .i64 a2_13, .float .f64 a2_14] 35 (0, 0))) := ⟨h0_⟩
  have BK336 : Aside0 (w22.heap[gb336]? = some (.cells #[.int .i64 0, .int .i64 0, .int .i64 0, .int .i64 0, .int .i64 0, .float .f64 0, .int .i64 0, .int .i64 0, .int .i64 0, .int .i64 0, .int .i64 0, .int .i64 0, .int .i64 0, .int .i64 0, .float .f64 0] 35 (0, 0))) := ⟨h1_⟩
  have BK337 : Aside0 (w22.heap[gb337]? = some (.cells #[.int .i64 0, .int .i64 0, .int .i64 0, .int .i64 0, .int .i64 0, .float .f64 0, .int .i64 0, .int .i64 0, .int .i64 0, .int .i64 0, .int .i64 0, .int .i64 0, .int .i64 0, .int .i64 0, .float .f64 0] 35 (0, 0))) := ⟨h2_⟩
  have GW336 : Aside0 (w.heap.size ≤ gb336) := ⟨h3_⟩
  have GE336 : Aside0 (w.heap.size ≤ gb336) := ⟨h4_⟩
  have NB331_336 : Aside0 (gb331 ≠ gb336) := ⟨h5_⟩
  have NB336_331 : Aside0 (gb336 ≠ gb331) := ⟨h6_⟩
  have NB337_336 : Aside0 (gb337 ≠ gb336) := ⟨h7_⟩
  have NB336_337 : Aside0 (gb336 ≠ gb337) := ⟨h8_⟩
  have GW337 : Aside0 (w.heap.size ≤ gb337) := ⟨h9_⟩
  have GE337 : Aside0 (w.heap.size ≤ gb337) := ⟨h10_⟩
  have NB331_337 : Aside0 (gb331 ≠ gb337) := ⟨h11_⟩
  have NB337_331 : Aside0 (gb337 ≠ gb331) := ⟨h12_⟩
  replace HB : Aside0 (Below w.heap.size w w22) := ⟨h13_⟩
  clear h0_ h1_ h2_ h3_ h4_ h5_ h6_ h7_ h8_ h9_ h10_ h11_ h12_ h13_
  have hHeld : w22.cell? (ad334.add ((a1).toNat * 15)) = some (.int .i64 ((rd_T35 l0 a1).f0)) ∧ w22.cell? ⟨(ad334.add ((a1).toNat * 15)).block, (ad334.add ((a1).toNat * 15)).off + 1, none⟩ = some (.int .i64 ((rd_T35 l0 a1).f1)) ∧ w22.cell? ⟨(ad334.add ((a1).toNat * 15)).block, (ad334.add ((a1).toNat * 15)).off + 2, none⟩ = some (.int .i64 ((rd_T35 l0 a1).f2)) ∧ w22.cell? ⟨(ad334.add ((a1).toNat * 15)).block, (ad334.add ((a1).toNat * 15)).off + 3, none⟩ = some (.int .i64 ((rd_T35 l0 a1).f3.f0)) ∧ w22.cell? ⟨(ad334.add ((a1).toNat * 15)).block, (ad334.add ((a1).toNat * 15)).off + 4, none⟩ = some (.int .i64 ((rd_T35 l0 a1).f3.f1)) ∧ w22.cell? ⟨(ad334.add ((a1).toNat * 15)).block, (ad334.add ((a1).toNat * 15)).off + 5, none⟩ = some (.float .f64 ((rd_T35 l0 a1).f3.f2)) ∧ w22.cell? ⟨(ad334.add ((a1).toNat * 15)).block, (ad334.add ((a1).toNat * 15)).off + 6, none⟩ = some (.int .i64 ((rd_T35 l0 a1).f3.f3.f0)) ∧ w22.cell? ⟨(ad334.add ((a1).toNat * 15)).block, (ad334.add ((a1).toNat * 15)).off + 7, none⟩ = some (.int .i64 ((rd_T35 l0 a1).f3.f3.f1)) ∧ w22.cell? ⟨(ad334.add ((a1).toNat * 15)).block, (ad334.add ((a1).toNat * 15)).off + 8, none⟩ = some (.int .i64 ((rd_T35 l0 a1).f4.f0)) ∧ w22.cell? ⟨(ad334.add ((a1).toNat * 15)).block, (ad334.add ((a1).toNat * 15)).off + 9, none⟩ = some (.int .i64 ((rd_T35 l0 a1).f4.f1.f0)) ∧ w22.cell? ⟨(ad334.add ((a1).toNat * 15)).block, (ad334.add ((a1).toNat * 15)).off + 10, none⟩ = some (.int .i64 ((rd_T35 l0 a1).f4.f1.f1)) ∧ w22.cell? ⟨(ad334.add ((a1).toNat * 15)).block, (ad334.add ((a1).toNat * 15)).off + 11, none⟩ = some (.int .i64 ((rd_T35 l0 a1).f4.f2.f0)) ∧ w22.cell? ⟨(ad334.add ((a1).toNat * 15)).block, (ad334.add ((a1).toNat * 15)).off + 12, none⟩ = some (.int .i64 ((rd_T35 l0 a1).f4.f2.f1.f0)) ∧ w22.cell? ⟨(ad334.add ((a1).toNat * 15)).block, (ad334.add ((a1).toNat * 15)).off + 13, none⟩ = some (.int .i64 ((rd_T35 l0 a1).f4.f2.f1.f1)) ∧ w22.cell? ⟨(ad334.add ((a1).toNat * 15)).block, (ad334.add ((a1).toNat * 15)).off + 14, none⟩ = some (.float .f64 ((rd_T35 l0 a1).f4.f2.f2)) ∧ w22.cell? (ad334.add ((t333).toNat * 15)) = some (.int .i64 ((rd_T35 l0 t333).f0)) ∧ w22.cell? ⟨(ad334.add ((t333).toNat * 15)).block, (ad334.add ((t333).toNat * 15)).off + 1, none⟩ = some (.int .i64 ((rd_T35 l0 t333).f1)) ∧ w22.cell? ⟨(ad334.add ((t333).toNat * 15)).block, (ad334.add ((t333).toNat * 15)).off + 2, none⟩ = some (.int .i64 ((rd_T35 l0 t333).f2)) ∧ w22.cell? ⟨(ad334.add ((t333).toNat * 15)).block, (ad334.add ((t333).toNat * 15)).off + 3, none⟩ = some (.int .i64 ((rd_T35 l0 t333).f3.f0)) ∧ w22.cell? ⟨(ad334.add ((t333).toNat * 15)).block, (ad334.add ((t333).toNat * 15)).off + 4, none⟩ = some (.int .i64 ((rd_T35 l0 t333).f3.f1)) ∧ w22.cell? ⟨(ad334.add ((t333).toNat * 15)).block, (ad334.add ((t333).toNat * 15)).off + 5, none⟩ = some (.float .f64 ((rd_T35 l0 t333).f3.f2)) ∧ w22.cell? ⟨(ad334.add ((t333).toNat * 15)).block, (ad334.add ((t333).toNat * 15)).off + 6, none⟩ = some (.int .i64 ((rd_T35 l0 t333).f3.f3.f0)) ∧ w22.cell? ⟨(ad334.add ((t333).toNat * 15)).block, (ad334.add ((t333).toNat * 15)).off + 7, none⟩ = some (.int .i64 ((rd_T35 l0 t333).f3.f3.f1)) ∧ w22.cell? ⟨(ad334.add ((t333).toNat * 15)).block, (ad334.add ((t333).toNat * 15)).off + 8, none⟩ = some (.int .i64 ((rd_T35 l0 t333).f4.f0)) ∧ w22.cell? ⟨(ad334.add ((t333).toNat * 15)).block, (ad334.add ((t333).toNat * 15)).off + 9, none⟩ = some (.int .i64 ((rd_T35 l0 t333).f4.f1.f0)) ∧ w22.cell? ⟨(ad334.add ((t333).toNat * 15)).block, (ad334.add ((t333).toNat * 15)).off + 10, none⟩ = some (.int .i64 ((rd_T35 l0 t333).f4.f1.f1)) ∧ w22.cell? ⟨(ad334.add ((t333).toNat * 15)).block, (ad334.add ((t333).toNat * 15)).off + 11, none⟩ = some (.int .i64 ((rd_T35 l0 t333).f4.f2.f0)) ∧ w22.cell? ⟨(ad334.add ((t333).toNat * 15)).block, (ad334.add ((t333).toNat * 15)).off + 12, none⟩ = some (.int .i64 ((rd_T35 l0 t333).f4.f2.f1.f0)) ∧ w22.cell? ⟨(ad334.add ((t333).toNat * 15)).block, (ad334.add ((t333).toNat * 15)).off + 13, none⟩ = some (.int .i64 ((rd_T35 l0 t333).f4.f2.f1.f1)) ∧ w22.cell? ⟨(ad334.add ((t333).toNat * 15)).block, (ad334.add ((t333).toNat * 15)).off + 14, none⟩ = some (.float .f64 ((rd_T35 l0 t333).f4.f2.f2)) := hS_
  refine norm_ (a' := ?_) ?_ ?_
  rotate_left
  · simp only [putAll, Act.put, zS, zZ, zC]
    rfl
  refine one_ (i := 10) (N := none) #[T_, T_, T_, T_, T_, T_, T_, T_, T_, T_, T_, F_] rfl rfl (one_of HT_.out (by kernel_rfl)) (by decide) (fun K hK => ?_)
  have hs23 : w22.cell? ⟨gb336, 0, none⟩ = some (.int .i64 0) := (zL BK336.out 0).trans rfl
  have hfs23 := zF BK336.out 0
  have hns23_0 := NB331_336.out
  have hns23_2 := NB337_336.out
  have hms23_0 := NB336_331.out
  have hms23_2 := NB336_337.out
  have hs24 : w22.cell? ⟨gb336, 1, none⟩ = some (.int .i64 0) := (zL BK336.out 1).trans rfl
  have hfs24 := zF BK336.out 1
  have hns24_0 := NB331_336.out
  have hns24_2 := NB337_336.out
  have hms24_0 := NB336_331.out
  have hms24_2 := NB336_337.out
  have hs25 : w22.cell? ⟨gb336, 2, none⟩ = some (.int .i64 0) := (zL BK336.out 2).trans rfl
  have hfs25 := zF BK336.out 2
  have hns25_0 := NB331_336.out
  have hns25_2 := NB337_336.out
  have hms25_0 := NB336_331.out
  have hms25_2 := NB336_337.out
  have hs26 : w22.cell? ⟨gb336, 3, none⟩ = some (.int .i64 0) := (zL BK336.out 3).trans rfl
  have hfs26 := zF BK336.out 3
  have hns26_0 := NB331_336.out
  have hns26_2 := NB337_336.out
  have hms26_0 := NB336_331.out
  have hms26_2 := NB336_337.out
  have hs27 : w22.cell? ⟨gb336, 4, none⟩ = some (.int .i64 0) := (zL BK336.out 4).trans rfl
  have hfs27 := zF BK336.out 4
  have hns27_0 := NB331_336.out
  have hns27_2 := NB337_336.out
  have hms27_0 := NB336_331.out
  have hms27_2 := NB336_337.out
  have hs28 : w22.cell? ⟨gb336, 5, none⟩ = some (.float .f64 0) := (zL BK336.out 5).trans rfl
  have hfs28 := zF BK336.out 5
  have hns28_0 := NB331_336.out
  have hns28_2 := NB337_336.out
  have hms28_0 := NB336_331.out
  have hms28_2 := NB336_337.out
  have hs29 : w22.cell? ⟨gb336, 6, none⟩ = some (.int .i64 0) := (zL BK336.out 6).trans rfl
  have hfs29 := zF BK336.out 6
  have hns29_0 := NB331_336.out
  have hns29_2 := NB337_336.out
  have hms29_0 := NB336_331.out
  have hms29_2 := NB336_337.out
  have hs30 : w22.cell? ⟨gb336, 7, none⟩ = some (.int .i64 0) := (zL BK336.out 7).trans rfl
  have hfs30 := zF BK336.out 7
  have hns30_0 := NB331_336.out
  have hns30_2 := NB337_336.out
  have hms30_0 := NB336_331.out
  have hms30_2 := NB336_337.out
  have hs31 : w22.cell? ⟨gb336, 8, none⟩ = some (.int .i64 0) := (zL BK336.out 8).trans rfl
  have hfs31 := zF BK336.out 8
  have hns31_0 := NB331_336.out
  have hns31_2 := NB337_336.out
  have hms31_0 := NB336_331.out
  have hms31_2 := NB336_337.out
  have hs32 : w22.cell? ⟨gb336, 9, none⟩ = some (.int .i64 0) := (zL BK336.out 9).trans rfl
  have hfs32 := zF BK336.out 9
  have hns32_0 := NB331_336.out
  have hns32_2 := NB337_336.out
  have hms32_0 := NB336_331.out
  have hms32_2 := NB336_337.out
  have hs33 : w22.cell? ⟨gb336, 10, none⟩ = some (.int .i64 0) := (zL BK336.out 10).trans rfl
  have hfs33 := zF BK336.out 10
  have hns33_0 := NB331_336.out
  have hns33_2 := NB337_336.out
  have hms33_0 := NB336_331.out
  have hms33_2 := NB336_337.out
  have hs34 : w22.cell? ⟨gb336, 11, none⟩ = some (.int .i64 0) := (zL BK336.out 11).trans rfl
  have hfs34 := zF BK336.out 11
  have hns34_0 := NB331_336.out
  have hns34_2 := NB337_336.out
  have hms34_0 := NB336_331.out
  have hms34_2 := NB336_337.out
  have hs35 : w22.cell? ⟨gb336, 12, none⟩ = some (.int .i64 0) := (zL BK336.out 12).trans rfl
  have hfs35 := zF BK336.out 12
  have hns35_0 := NB331_336.out
  have hns35_2 := NB337_336.out
  have hms35_0 := NB336_331.out
  have hms35_2 := NB336_337.out
  have hs36 : w22.cell? ⟨gb336, 13, none⟩ = some (.int .i64 0) := (zL BK336.out 13).trans rfl
  have hfs36 := zF BK336.out 13
  have hns36_0 := NB331_336.out
  have hns36_2 := NB337_336.out
  have hms36_0 := NB336_331.out
  have hms36_2 := NB336_337.out
  have hs37 : w22.cell? ⟨gb336, 14, none⟩ = some (.float .f64 0) := (zL BK336.out 14).trans rfl
  have hfs37 := zF BK336.out 14
  have hns37_0 := NB331_336.out
  have hns37_2 := NB337_336.out
  have hms37_0 := NB336_331.out
  have hms37_2 := NB336_337.out
  refine skip_ (by rfl) rfl (xs15_ rfl rfl rfl (by kernel_rfl) (hb := BK336)) ?_
  refine hK.out _ _ ⟨(c15_ hw334_0 GW336 (hHeld.1)), (c15_ hw334_1 GW336 (hHeld.2.1)), (c15_ hw334_2 GW336 (hHeld.2.2.1)), (c15_ hw334_3 GW336 (hHeld.2.2.2.1)), (c15_ hw334_4 GW336 (hHeld.2.2.2.2.1)), (c15_ hw334_5 GW336 (hHeld.2.2.2.2.2.1)), (c15_ hw334_6 GW336 (hHeld.2.2.2.2.2.2.1)), (c15_ hw334_7 GW336 (hHeld.2.2.2.2.2.2.2.1)), (c15_ hw334_8 GW336 (hHeld.2.2.2.2.2.2.2.2.1)), (c15_ hw334_9 GW336 (hHeld.2.2.2.2.2.2.2.2.2.1)), (c15_ hw334_10 GW336 (hHeld.2.2.2.2.2.2.2.2.2.2.1)), (c15_ hw334_11 GW336 (hHeld.2.2.2.2.2.2.2.2.2.2.2.1)), (c15_ hw334_12 GW336 (hHeld.2.2.2.2.2.2.2.2.2.2.2.2.1)), (c15_ hw334_13 GW336 (hHeld.2.2.2.2.2.2.2.2.2.2.2.2.2.1)), (c15_ hw334_14 GW336 (hHeld.2.2.2.2.2.2.2.2.2.2.2.2.2.2.1)), (c15_ hw335_0 GW336 (hHeld.2.2.2.2.2.2.2.2.2.2.2.2.2.2.2.1)), (c15_ hw335_1 GW336 (hHeld.2.2.2.2.2.2.2.2.2.2.2.2.2.2.2.2.1)), (c15_ hw335_2 GW336 (hHeld.2.2.2.2.2.2.2.2.2.2.2.2.2.2.2.2.2.1)), (c15_ hw335_3 GW336 (hHeld.2.2.2.2.2.2.2.2.2.2.2.2.2.2.2.2.2.2.1)), (c15_ hw335_4 GW336 (hHeld.2.2.2.2.2.2.2.2.2.2.2.2.2.2.2.2.2.2.2.1)), (c15_ hw335_5 GW336 (hHeld.2.2.2.2.2.2.2.2.2.2.2.2.2.2.2.2.2.2.2.2.1)), (c15_ hw335_6 GW336 (hHeld.2.2.2.2.2.2.2.2.2.2.2.2.2.2.2.2.2.2.2.2.2.1)), (c15_ hw335_7 GW336 (hHeld.2.2.2.2.2.2.2.2.2.2.2.2.2.2.2.2.2.2.2.2.2.2.1)), (c15_ hw335_8 GW336 (hHeld.2.2.2.2.2.2.2.2.2.2.2.2.2.2.2.2.2.2.2.2.2.2.2.1)), (c15_ hw335_9 GW336 (hHeld.2.2.2.2.2.2.2.2.2.2.2.2.2.2.2.2.2.2.2.2.2.2.2.2.1)), (c15_ hw335_10 GW336 (hHeld.2.2.2.2.2.2.2.2.2.2.2.2.2.2.2.2.2.2.2.2.2.2.2.2.2.1)), (c15_ hw335_11 GW336 (hHeld.2.2.2.2.2.2.2.2.2.2.2.2.2.2.2.2.2.2.2.2.2.2.2.2.2.2.1)), (c15_ hw335_12 GW336 (hHeld.2.2.2.2.2.2.2.2.2.2.2.2.2.2.2.2.2.2.2.2.2.2.2.2.2.2.2.1)), (c15_ hw335_13 GW336 (hHeld.2.2.2.2.2.2.2.2.2.2.2.2.2.2.2.2.2.2.2.2.2.2.2.2.2.2.2.2.1)), (c15_ hw335_14 GW336 (hHeld.2.2.2.2.2.2.2.2.2.2.2.2.2.2.2.2.2.2.2.2.2.2.2.2.2.2.2.2.2))⟩ (fun hHeld => ?_)
  clear hK K
  refine one_ (i := 11) (N := none) #[T_, T_, T_, T_, T_, T_, T_, T_, T_, T_, T_, T_] rfl rfl (one_of HT_.out (by kernel_rfl)) (by decide) (fun K hK => ?_)
  have hs38 : w22.cell? ⟨gb337, 0, none⟩ = some (.int .i64 0) := (zL BK337.out 0).trans rfl
  have hfs38 := zF BK337.out 0
  have hns38_0 := NB331_337.out
  have hns38_1 := NB336_337.out
  have hms38_0 := NB337_331.out
  have hms38_1 := NB337_336.out
  have hs39 : w22.cell? ⟨gb337, 1, none⟩ = some (.int .i64 0) := (zL BK337.out 1).trans rfl
  have hfs39 := zF BK337.out 1
  have hns39_0 := NB331_337.out
  have hns39_1 := NB336_337.out
  have hms39_0 := NB337_331.out
  have hms39_1 := NB337_336.out
  have hs40 : w22.cell? ⟨gb337, 2, none⟩ = some (.int .i64 0) := (zL BK337.out 2).trans rfl
  have hfs40 := zF BK337.out 2
  have hns40_0 := NB331_337.out
  have hns40_1 := NB336_337.out
  have hms40_0 := NB337_331.out
  have hms40_1 := NB337_336.out
  have hs41 : w22.cell? ⟨gb337, 3, none⟩ = some (.int .i64 0) := (zL BK337.out 3).trans rfl
  have hfs41 := zF BK337.out 3
  have hns41_0 := NB331_337.out
  have hns41_1 := NB336_337.out
  have hms41_0 := NB337_331.out
  have hms41_1 := NB337_336.out
  have hs42 : w22.cell? ⟨gb337, 4, none⟩ = some (.int .i64 0) := (zL BK337.out 4).trans rfl
  have hfs42 := zF BK337.out 4
  have hns42_0 := NB331_337.out
  have hns42_1 := NB336_337.out
  have hms42_0 := NB337_331.out
  have hms42_1 := NB337_336.out
  have hs43 : w22.cell? ⟨gb337, 5, none⟩ = some (.float .f64 0) := (zL BK337.out 5).trans rfl
  have hfs43 := zF BK337.out 5
  have hns43_0 := NB331_337.out
  have hns43_1 := NB336_337.out
  have hms43_0 := NB337_331.out
  have hms43_1 := NB337_336.out
  have hs44 : w22.cell? ⟨gb337, 6, none⟩ = some (.int .i64 0) := (zL BK337.out 6).trans rfl
  have hfs44 := zF BK337.out 6
  have hns44_0 := NB331_337.out
  have hns44_1 := NB336_337.out
  have hms44_0 := NB337_331.out
  have hms44_1 := NB337_336.out
  have hs45 : w22.cell? ⟨gb337, 7, none⟩ = some (.int .i64 0) := (zL BK337.out 7).trans rfl
  have hfs45 := zF BK337.out 7
  have hns45_0 := NB331_337.out
  have hns45_1 := NB336_337.out
  have hms45_0 := NB337_331.out
  have hms45_1 := NB337_336.out
  have hs46 : w22.cell? ⟨gb337, 8, none⟩ = some (.int .i64 0) := (zL BK337.out 8).trans rfl
  have hfs46 := zF BK337.out 8
  have hns46_0 := NB331_337.out
  have hns46_1 := NB336_337.out
  have hms46_0 := NB337_331.out
  have hms46_1 := NB337_336.out
  have hs47 : w22.cell? ⟨gb337, 9, none⟩ = some (.int .i64 0) := (zL BK337.out 9).trans rfl
  have hfs47 := zF BK337.out 9
  have hns47_0 := NB331_337.out
  have hns47_1 := NB336_337.out
  have hms47_0 := NB337_331.out
  have hms47_1 := NB337_336.out
  have hs48 : w22.cell? ⟨gb337, 10, none⟩ = some (.int .i64 0) := (zL BK337.out 10).trans rfl
  have hfs48 := zF BK337.out 10
  have hns48_0 := NB331_337.out
  have hns48_1 := NB336_337.out
  have hms48_0 := NB337_331.out
  have hms48_1 := NB337_336.out
  have hs49 : w22.cell? ⟨gb337, 11, none⟩ = some (.int .i64 0) := (zL BK337.out 11).trans rfl
  have hfs49 := zF BK337.out 11
  have hns49_0 := NB331_337.out
  have hns49_1 := NB336_337.out
  have hms49_0 := NB337_331.out
  have hms49_1 := NB337_336.out
  have hs50 : w22.cell? ⟨gb337, 12, none⟩ = some (.int .i64 0) := (zL BK337.out 12).trans rfl
  have hfs50 := zF BK337.out 12
  have hns50_0 := NB331_337.out
  have hns50_1 := NB336_337.out
  have hms50_0 := NB337_331.out
  have hms50_1 := NB337_336.out
  have hs51 : w22.cell? ⟨gb337, 13, none⟩ = some (.int .i64 0) := (zL BK337.out 13).trans rfl
  have hfs51 := zF BK337.out 13
  have hns51_0 := NB331_337.out
  have hns51_1 := NB336_337.out
  have hms51_0 := NB337_331.out
  have hms51_1 := NB337_336.out
  have hs52 : w22.cell? ⟨gb337, 14, none⟩ = some (.float .f64 0) := (zL BK337.out 14).trans rfl
  have hfs52 := zF BK337.out 14
  have hns52_0 := NB331_337.out
  have hns52_1 := NB336_337.out
  have hms52_0 := NB337_331.out
  have hms52_1 := NB337_336.out
  generalize hW_ : World.setCell _ _ _ = w99_
  have B1_ : Aside0 (w99_.heap[gb337]? = some (.cells #[.int .i64 0, .int .i64 0, .int .i64 0, .int .i64 0, .int .i64 0, .float .f64 0, .int .i64 0, .int .i64 0, .int .i64 0, .int .i64 0, .int .i64 0, .int .i64 0, .int .i64 0, .int .i64 0, .float .f64 0] 35 (0, 0))) := ⟨by rw [← hW_]; exact bf15_ BK337.out NB337_336⟩
  refine skip_ (by rfl) rfl (xs15_ rfl rfl rfl (by kernel_rfl) (hb := B1_)) ?_
  subst hW_
  refine hK.out _ _ ⟨(c15_ hw334_0 GW337 (hHeld.1)), (c15_ hw334_1 GW337 (hHeld.2.1)), (c15_ hw334_2 GW337 (hHeld.2.2.1)), (c15_ hw334_3 GW337 (hHeld.2.2.2.1)), (c15_ hw334_4 GW337 (hHeld.2.2.2.2.1)), (c15_ hw334_5 GW337 (hHeld.2.2.2.2.2.1)), (c15_ hw334_6 GW337 (hHeld.2.2.2.2.2.2.1)), (c15_ hw334_7 GW337 (hHeld.2.2.2.2.2.2.2.1)), (c15_ hw334_8 GW337 (hHeld.2.2.2.2.2.2.2.2.1)), (c15_ hw334_9 GW337 (hHeld.2.2.2.2.2.2.2.2.2.1)), (c15_ hw334_10 GW337 (hHeld.2.2.2.2.2.2.2.2.2.2.1)), (c15_ hw334_11 GW337 (hHeld.2.2.2.2.2.2.2.2.2.2.2.1)), (c15_ hw334_12 GW337 (hHeld.2.2.2.2.2.2.2.2.2.2.2.2.1)), (c15_ hw334_13 GW337 (hHeld.2.2.2.2.2.2.2.2.2.2.2.2.2.1)), (c15_ hw334_14 GW337 (hHeld.2.2.2.2.2.2.2.2.2.2.2.2.2.2.1)), (c15_ hw335_0 GW337 (hHeld.2.2.2.2.2.2.2.2.2.2.2.2.2.2.2.1)), (c15_ hw335_1 GW337 (hHeld.2.2.2.2.2.2.2.2.2.2.2.2.2.2.2.2.1)), (c15_ hw335_2 GW337 (hHeld.2.2.2.2.2.2.2.2.2.2.2.2.2.2.2.2.2.1)), (c15_ hw335_3 GW337 (hHeld.2.2.2.2.2.2.2.2.2.2.2.2.2.2.2.2.2.2.1)), (c15_ hw335_4 GW337 (hHeld.2.2.2.2.2.2.2.2.2.2.2.2.2.2.2.2.2.2.2.1)), (c15_ hw335_5 GW337 (hHeld.2.2.2.2.2.2.2.2.2.2.2.2.2.2.2.2.2.2.2.2.1)), (c15_ hw335_6 GW337 (hHeld.2.2.2.2.2.2.2.2.2.2.2.2.2.2.2.2.2.2.2.2.2.1)), (c15_ hw335_7 GW337 (hHeld.2.2.2.2.2.2.2.2.2.2.2.2.2.2.2.2.2.2.2.2.2.2.1)), (c15_ hw335_8 GW337 (hHeld.2.2.2.2.2.2.2.2.2.2.2.2.2.2.2.2.2.2.2.2.2.2.2.1)), (c15_ hw335_9 GW337 (hHeld.2.2.2.2.2.2.2.2.2.2.2.2.2.2.2.2.2.2.2.2.2.2.2.2.1)), (c15_ hw335_10 GW337 (hHeld.2.2.2.2.2.2.2.2.2.2.2.2.2.2.2.2.2.2.2.2.2.2.2.2.2.1)), (c15_ hw335_11 GW337 (hHeld.2.2.2.2.2.2.2.2.2.2.2.2.2.2.2.2.2.2.2.2.2.2.2.2.2.2.1)), (c15_ hw335_12 GW337 (hHeld.2.2.2.2.2.2.2.2.2.2.2.2.2.2.2.2.2.2.2.2.2.2.2.2.2.2.2.1)), (c15_ hw335_13 GW337 (hHeld.2.2.2.2.2.2.2.2.2.2.2.2.2.2.2.2.2.2.2.2.2.2.2.2.2.2.2.2.1)), (c15_ hw335_14 GW337 (hHeld.2.2.2.2.2.2.2.2.2.2.2.2.2.2.2.2.2.2.2.2.2.2.2.2.2.2.2.2.2))⟩ (fun hHeld => ?_)
  clear hK K
  refine done_ (done_of HT_.out (by kernel_rfl)) ?_
  go_upto_region 8 with (fail)
  go_cut [69] (fun v69 wc => ∃ (kq : Nat) (x69_14 : Bool), v69 = .bool x69_14 ∧ Aside0 (ropewaylaw21_PastSources.j0 kq l0 x69_14 a2_0 a2_1 a2_2 a2_3 a2_4 a2_5 a2_6 a2_7 a2_8 a2_9 a2_10 a2_11 a2_12 a2_13 a2_14 = some r) ∧ Aside0 (kq ≤ k) ∧ Aside0 (wc.heap[gb331]? = some (.cells #[.int .i64 a2_0, .int .i64 a2_1, .int .i64 a2_2, .int .i64 a2_3, .int .i64 a2_4, .float .f64 a2_5, .int .i64 a2_6, .int .i64 a2_7, .int .i64 a2_8, .int .i64 a2_9, .int .i64 a2_10, .int .i64 a2_11, .int .i64 a2_12, .int .i64 a2_13, .float .f64 a2_14] 35 (0, 0))) ∧ Aside0 (wc.heap[gb336]? = some (.cells (e35_ (rd_T35 l0 a1)) 35 (0, 0))) ∧ Aside0 (wc.heap[gb337]? = some (.cells (e35_ (rd_T35 l0 t333)) 35 (0, 0))) ∧ Aside0 (Below w.heap.size w wc))
  case first =>
   have H := HC15.out
   clear HC15
   by_cases c53 : ((rd_T35 l0 t333).f3.f0) = 1
   rotate_left
   · rw [if_neg c53] at H
     have c53b0 : (((rd_T35 l0 t333).f3.f0) == 1) = false := beq_eq_false_iff_ne.mpr c53
     have c53b1 : (((rd_T35 l0 t333).f3.f0) != 1) = true := bne_iff_ne.mpr c53
     (first | rw [c53b0] | (simp only [i64_w, i32_w]; rw [c53b0]) | skip)
     have hr1 := hr1_.out
     subst hr1
     (cases k) <;> simp [ropewaylaw21_PastSources.j0] at H
   rw [if_pos c53] at H
   have c53b0 : (((rd_T35 l0 t333).f3.f0) == 1) = true := beq_iff_eq.mpr c53
   have c53b1 : (((rd_T35 l0 t333).f3.f0) != 1) = false := bne_eq_false_iff_eq.mpr c53
   clear c53
   (first | rw [c53b0] | (simp only [i64_w, i32_w]; rw [c53b0]) | skip)
   by_cases c54 : ((rd_T35 l0 t333).f3.f1) = ((rd_T35 l0 a1).f3.f1)
   rotate_left
   · rw [if_neg c54] at H
     have c54b0 : (((rd_T35 l0 t333).f3.f1) == ((rd_T35 l0 a1).f3.f1)) = false := beq_eq_false_iff_ne.mpr c54
     have c54b1 : (((rd_T35 l0 t333).f3.f1) != ((rd_T35 l0 a1).f3.f1)) = true := bne_iff_ne.mpr c54
     have hr1 := hr1_.out
     subst hr1
     (cases k) <;> simp [ropewaylaw21_PastSources.j0] at H
   rw [if_pos c54] at H
   have c54b0 : (((rd_T35 l0 t333).f3.f1) == ((rd_T35 l0 a1).f3.f1)) = true := beq_iff_eq.mpr c54
   have c54b1 : (((rd_T35 l0 t333).f3.f1) != ((rd_T35 l0 a1).f3.f1)) = false := bne_eq_false_iff_eq.mpr c54
   clear c54
   by_cases c55 : ((rd_T35 l0 t333).f1) > ((rd_T35 l0 a1).f2)
   · rw [if_pos c55] at H
     have c55b0 : decide (((rd_T35 l0 a1).f2) < ((rd_T35 l0 t333).f1)) = true := decide_eq_true c55
     clear c55
     have hr1 := hr1_.out
     subst hr1
     (cases k) <;> simp [ropewaylaw21_PastSources.j0] at H
   rw [if_neg c55] at H
   have c55b0 : decide (((rd_T35 l0 a1).f2) < ((rd_T35 l0 t333).f1)) = false := decide_eq_false c55
   clear c55
   replace H := Option.bind_eq_some_iff.mp H
   obtain ⟨t338, A560, H⟩ := H
   replace H : ((ropewayref01_Bits.f ((rd_T35 l0 a1).f4.f2.f2)).bind fun t339 => (if t338 = t339 then (ropewaylaw21_PastSources.j0 k l0 (((rd_T35 l0 t333).f0) != ((rd_T35 l0 a1).f4.f2.f1.f1)) a2_0 a2_1 a2_2 a2_3 a2_4 a2_5 a2_6 a2_7 a2_8 a2_9 a2_10 a2_11 a2_12 a2_13 a2_14) else (ropewaylaw21_PastSources.j0 k l0 true a2_0 a2_1 a2_2 a2_3 a2_4 a2_5 a2_6 a2_7 a2_8 a2_9 a2_10 a2_11 a2_12 a2_13 a2_14))) = some r := H
   have A56 := zM A560
   clear A560
   replace H := Option.bind_eq_some_iff.mp H
   obtain ⟨t339, A570, H⟩ := H
   replace H : (if t338 = t339 then (ropewaylaw21_PastSources.j0 k l0 (((rd_T35 l0 t333).f0) != ((rd_T35 l0 a1).f4.f2.f1.f1)) a2_0 a2_1 a2_2 a2_3 a2_4 a2_5 a2_6 a2_7 a2_8 a2_9 a2_10 a2_11 a2_12 a2_13 a2_14) else (ropewaylaw21_PastSources.j0 k l0 true a2_0 a2_1 a2_2 a2_3 a2_4 a2_5 a2_6 a2_7 a2_8 a2_9 a2_10 a2_11 a2_12 a2_13 a2_14)) = some r := H
   have A57 := zM A570
   clear A570
   by_cases c58 : t338 = t339
   rotate_left
   · rw [if_neg c58] at H
     have c58b0 : (t338 == t339) = false := beq_eq_false_iff_ne.mpr c58
     have c58b1 : (t338 != t339) = true := bne_iff_ne.mpr c58
     have hr1 := hr1_.out
     subst hr1
     (cases k) <;> simp [ropewaylaw21_PastSources.j0] at H
   rw [if_pos c58] at H
   have c58b0 : (t338 == t339) = true := beq_iff_eq.mpr c58
   have c58b1 : (t338 != t339) = false := bne_eq_false_iff_eq.mpr c58
   clear c58
   have H' := zM H
   clear H
   try go_wp2
   generalize hW_ : World.setCell _ _ _ = w59
   replace BK331 : Aside0 (w59.heap[gb331]? = some (.cells #[.int .i64 a2_0, .int .i64 a2_1, .int .i64 a2_2, .int .i64 a2_3, .int .i64 a2_4, .float .f64 a2_5, .int .i64 a2_6, .int .i64 a2_7, .int .i64 a2_8, .int .i64 a2_9, .int .i64 a2_10, .int .i64 a2_11, .int .i64 a2_12, .int .i64 a2_13, .float .f64 a2_14] 35 (0, 0))) := ⟨by rw [← hW_]; exact bf15_ (bf15_ BK331.out NB331_336) NB331_337⟩
   replace BK336 : Aside0 (w59.heap[gb336]? = some (.cells (e35_ (rd_T35 l0 a1)) 35 (0, 0))) := ⟨by rw [← hW_]; exact bf15_ (fxw15_ BK336) NB336_337⟩
   replace BK337 : Aside0 (w59.heap[gb337]? = some (.cells (e35_ (rd_T35 l0 t333)) 35 (0, 0))) := ⟨by rw [← hW_]; exact fxw15_ BK337 (h := bf15_ BK337.out NB337_336)⟩
   replace HB : Aside0 (Below w.heap.size w w59) := ⟨by rw [← hW_]; exact bl15_ (bl15_ HB.out GE336) GE337⟩
   clear hW_
   replace BK331 := zM (zD BK331.out)
   replace BK336 := zM (zD BK336.out)
   replace BK337 := zM (zD BK337.out)
   replace HB := zM (below_drew1 HB.out)
   refine start_ (n := 42) (S := fun w' => w'.cell? ⟨gb337, 0, none⟩ = some (.int .i64 ((rd_T35 l0 t333).f0)) ∧ w'.cell? ⟨gb337, 1, none⟩ = some (.int .i64 ((rd_T35 l0 t333).f1)) ∧ w'.cell? ⟨gb337, 2, none⟩ = some (.int .i64 ((rd_T35 l0 t333).f2)) ∧ w'.cell? ⟨gb337, 3, none⟩ = some (.int .i64 ((rd_T35 l0 t333).f3.f0)) ∧ w'.cell? ⟨gb337, 4, none⟩ = some (.int .i64 ((rd_T35 l0 t333).f3.f1)) ∧ w'.cell? ⟨gb337, 5, none⟩ = some (.float .f64 ((rd_T35 l0 t333).f3.f2)) ∧ w'.cell? ⟨gb337, 6, none⟩ = some (.int .i64 ((rd_T35 l0 t333).f3.f3.f0)) ∧ w'.cell? ⟨gb337, 7, none⟩ = some (.int .i64 ((rd_T35 l0 t333).f3.f3.f1)) ∧ w'.cell? ⟨gb337, 8, none⟩ = some (.int .i64 ((rd_T35 l0 t333).f4.f0)) ∧ w'.cell? ⟨gb337, 9, none⟩ = some (.int .i64 ((rd_T35 l0 t333).f4.f1.f0)) ∧ w'.cell? ⟨gb337, 10, none⟩ = some (.int .i64 ((rd_T35 l0 t333).f4.f1.f1)) ∧ w'.cell? ⟨gb337, 11, none⟩ = some (.int .i64 ((rd_T35 l0 t333).f4.f2.f0)) ∧ w'.cell? ⟨gb337, 12, none⟩ = some (.int .i64 ((rd_T35 l0 t333).f4.f2.f1.f0)) ∧ w'.cell? ⟨gb337, 13, none⟩ = some (.int .i64 ((rd_T35 l0 t333).f4.f2.f1.f1)) ∧ w'.cell? ⟨gb337, 14, none⟩ = some (.float .f64 ((rd_T35 l0 t333).f4.f2.f2)) ∧ w'.cell? ⟨gb336, 0, none⟩ = some (.int .i64 ((rd_T35 l0 a1).f0)) ∧ w'.cell? ⟨gb336, 1, none⟩ = some (.int .i64 ((rd_T35 l0 a1).f1)) ∧ w'.cell? ⟨gb336, 2, none⟩ = some (.int .i64 ((rd_T35 l0 a1).f2)) ∧ w'.cell? ⟨gb336, 3, none⟩ = some (.int .i64 ((rd_T35 l0 a1).f3.f0)) ∧ w'.cell? ⟨gb336, 4, none⟩ = some (.int .i64 ((rd_T35 l0 a1).f3.f1)) ∧ w'.cell? ⟨gb336, 5, none⟩ = some (.float .f64 ((rd_T35 l0 a1).f3.f2)) ∧ w'.cell? ⟨gb336, 6, none⟩ = some (.int .i64 ((rd_T35 l0 a1).f3.f3.f0)) ∧ w'.cell? ⟨gb336, 7, none⟩ = some (.int .i64 ((rd_T35 l0 a1).f3.f3.f1)) ∧ w'.cell? ⟨gb336, 8, none⟩ = some (.int .i64 ((rd_T35 l0 a1).f4.f0)) ∧ w'.cell? ⟨gb336, 9, none⟩ = some (.int .i64 ((rd_T35 l0 a1).f4.f1.f0)) ∧ w'.cell? ⟨gb336, 10, none⟩ = some (.int .i64 ((rd_T35 l0 a1).f4.f1.f1)) ∧ w'.cell? ⟨gb336, 11, none⟩ = some (.int .i64 ((rd_T35 l0 a1).f4.f2.f0)) ∧ w'.cell? ⟨gb336, 12, none⟩ = some (.int .i64 ((rd_T35 l0 a1).f4.f2.f1.f0)) ∧ w'.cell? ⟨gb336, 13, none⟩ = some (.int .i64 ((rd_T35 l0 a1).f4.f2.f1.f1)) ∧ w'.cell? ⟨gb336, 14, none⟩ = some (.float .f64 ((rd_T35 l0 a1).f4.f2.f2))) (ds := []) #[F_, F_, F_, F_, F_, F_, F_, F_, F_, F_, F_, F_, F_, F_, F_, F_, F_, F_, F_, F_, F_, F_, F_, F_, F_, F_, F_, F_, F_, F_, F_, F_, F_, F_, F_, F_, F_, F_, F_, F_, F_, F_] (by kernel_rfl) rfl rfl ⟨(zL BK337.out 0).trans rfl, (zL BK337.out 1).trans rfl, (zL BK337.out 2).trans rfl, (zL BK337.out 3).trans rfl, (zL BK337.out 4).trans rfl, (zL BK337.out 5).trans rfl, (zL BK337.out 6).trans rfl, (zL BK337.out 7).trans rfl, (zL BK337.out 8).trans rfl, (zL BK337.out 9).trans rfl, (zL BK337.out 10).trans rfl, (zL BK337.out 11).trans rfl, (zL BK337.out 12).trans rfl, (zL BK337.out 13).trans rfl, (zL BK337.out 14).trans rfl, (zL BK336.out 0).trans rfl, (zL BK336.out 1).trans rfl, (zL BK336.out 2).trans rfl, (zL BK336.out 3).trans rfl, (zL BK336.out 4).trans rfl, (zL BK336.out 5).trans rfl, (zL BK336.out 6).trans rfl, (zL BK336.out 7).trans rfl, (zL BK336.out 8).trans rfl, (zL BK336.out 9).trans rfl, (zL BK336.out 10).trans rfl, (zL BK336.out 11).trans rfl, (zL BK336.out 12).trans rfl, (zL BK336.out 13).trans rfl, (zL BK336.out 14).trans rfl⟩ (fun hHeld => ?_); refine with_tabW ropewaylaw21_PastSources.tab8 ropewaylaw21_PastSources.bits8 (fun HT_ HW_ => ?_)
   generalize w59.drew = w60 at BK331 BK336 BK337 HB hHeld ⊢
   refine pure_ (i := 0) (N := some 28) (v := ?_) (a' := ?_) #[T_, F_, F_, F_, F_, F_, F_, F_, F_, F_, F_, F_, F_, F_, F_, F_, F_, F_, F_, F_, F_, F_, F_, F_, F_, F_, F_, F_, F_, F_, F_, F_, F_, F_, F_, F_, F_, F_, F_, F_, F_, F_] rfl rfl (any_of HT_.out (by kernel_rfl)) (fun _ _ _ h => h) (Or.inl ⟨by rfl, ?_⟩) ?_ ?_
   rotate_left
   · intro w'
     go_simp
     with_reducible rfl
   rotate_left
   · simp only [Act.put, zS, zZ, zC, i64_w, i32_w]
     rfl
   refine pure_ (i := 1) (N := some 29) (v := ?_) (a' := ?_) #[T_, T_, F_, F_, F_, F_, F_, F_, F_, F_, F_, F_, F_, F_, F_, F_, F_, F_, F_, F_, F_, F_, F_, F_, F_, F_, F_, F_, F_, F_, F_, F_, F_, F_, F_, F_, F_, F_, F_, F_, F_, F_] rfl rfl (any_of HT_.out (by kernel_rfl)) (fun _ _ _ h => h) (Or.inl ⟨by rfl, ?_⟩) ?_ ?_
   rotate_left
   · intro w'
     go_simp
     with_reducible rfl
   rotate_left
   · simp only [Act.put, zS, zZ, zC, i64_w, i32_w]
     rfl
   refine take_ (i := 2) (N := some 30) (v := ?_) (a' := ?_) #[T_, T_, T_, F_, F_, F_, F_, F_, F_, F_, F_, F_, F_, F_, F_, F_, F_, F_, F_, F_, F_, F_, F_, F_, F_, F_, F_, F_, F_, F_, F_, F_, F_, F_, F_, F_, F_, F_, F_, F_, F_, F_] rfl rfl (take_ofW HT_.out HW_.out (by kernel_rfl)) (fun _ _ _ h => h) (Or.inl ⟨by rfl, ?_⟩) hHeld ?_ ?_
   rotate_left
   · rintro w' ⟨s0, s1, s2, s3, s4, s5, s6, s7, s8, s9, s10, s11, s12, s13, s14, s15, s16, s17, s18, s19, s20, s21, s22, s23, s24, s25, s26, s27, s28, s29⟩
     first | exact xl15_ rfl rfl Try.underlying35 rfl (by kernel_rfl) s0 s1 s2 s3 s4 s5 s6 s7 s8 s9 s10 s11 s12 s13 s14 | exact xl15_ rfl rfl Try.underlying35 rfl (by kernel_rfl) s15 s16 s17 s18 s19 s20 s21 s22 s23 s24 s25 s26 s27 s28 s29 | (go_simp; with_reducible rfl)
   rotate_left
   · simp only [Act.put, zS, zZ, zC, i64_w, i32_w]
     rfl
   refine pure_ (i := 3) (N := some 31) (v := ?_) (a' := ?_) #[T_, T_, T_, T_, F_, F_, F_, F_, F_, F_, F_, F_, F_, F_, F_, F_, F_, F_, F_, F_, F_, F_, F_, F_, F_, F_, F_, F_, F_, F_, F_, F_, F_, F_, F_, F_, F_, F_, F_, F_, F_, F_] rfl rfl (any_of HT_.out (by kernel_rfl)) (fun _ _ _ h => h) (Or.inl ⟨by rfl, ?_⟩) ?_ ?_
   rotate_left
   · intro w'
     go_simp
     with_reducible rfl
   rotate_left
   · simp only [Act.put, zS, zZ, zC, i64_w, i32_w]
     rfl
   refine pure_ (i := 4) (N := some 32) (v := ?_) (a' := ?_) #[T_, T_, T_, T_, T_, F_, F_, F_, F_, F_, F_, F_, F_, F_, F_, F_, F_, F_, F_, F_, F_, F_, F_, F_, F_, F_, F_, F_, F_, F_, F_, F_, F_, F_, F_, F_, F_, F_, F_, F_, F_, F_] rfl rfl (any_of HT_.out (by kernel_rfl)) (fun _ _ _ h => h) (Or.inl ⟨by rfl, ?_⟩) ?_ ?_
   rotate_left
   · intro w'
     go_simp
     with_reducible rfl
   rotate_left
   · simp only [Act.put, zS, zZ, zC, i64_w, i32_w]
     rfl
   refine pure_ (i := 5) (N := some 33) (v := ?_) (a' := ?_) #[T_, T_, T_, T_, T_, T_, F_, F_, F_, F_, F_, F_, F_, F_, F_, F_, F_, F_, F_, F_, F_, F_, F_, F_, F_, F_, F_, F_, F_, F_, F_, F_, F_, F_, F_, F_, F_, F_, F_, F_, F_, F_] rfl rfl (any_of HT_.out (by kernel_rfl)) (fun _ _ _ h => h) (Or.inl ⟨by rfl, ?_⟩) ?_ ?_
   rotate_left
   · intro w'
     go_simp
     with_reducible rfl
   rotate_left
   · simp only [Act.put, zS, zZ, zC, i64_w, i32_w]
     rfl
   refine pure_ (i := 6) (N := some 34) (v := ?_) (a' := ?_) #[T_, T_, T_, T_, T_, T_, T_, F_, F_, F_, F_, F_, F_, F_, F_, F_, F_, F_, F_, F_, F_, F_, F_, F_, F_, F_, F_, F_, F_, F_, F_, F_, F_, F_, F_, F_, F_, F_, F_, F_, F_, F_] rfl rfl (any_of HT_.out (by kernel_rfl)) (fun _ _ _ h => h) (Or.inl ⟨by rfl, ?_⟩) ?_ ?_
   rotate_left
   · intro w'
     go_simp
     with_reducible rfl
   rotate_left
   · simp only [Act.put, zS, zZ, zC, i64_w, i32_w]
     rfl
   refine pure_ (i := 8) (N := some 36) (v := ?_) (a' := ?_) #[T_, T_, T_, T_, T_, T_, T_, F_, T_, F_, F_, F_, F_, F_, F_, F_, F_, F_, F_, F_, F_, F_, F_, F_, F_, F_, F_, F_, F_, F_, F_, F_, F_, F_, F_, F_, F_, F_, F_, F_, F_, F_] rfl rfl (any_of HT_.out (by kernel_rfl)) (fun _ _ _ h => h) (Or.inl ⟨by rfl, ?_⟩) ?_ ?_
   rotate_left
   · intro w'
     go_simp
     with_reducible rfl
   rotate_left
   · simp only [Act.put, zS, zZ, zC, i64_w, i32_w]
     rfl
   refine pure_ (i := 9) (N := some 37) (v := ?_) (a' := ?_) #[T_, T_, T_, T_, T_, T_, T_, F_, T_, T_, F_, F_, F_, F_, F_, F_, F_, F_, F_, F_, F_, F_, F_, F_, F_, F_, F_, F_, F_, F_, F_, F_, F_, F_, F_, F_, F_, F_, F_, F_, F_, F_] rfl rfl (any_of HT_.out (by kernel_rfl)) (fun _ _ _ h => h) (Or.inl ⟨by rfl, ?_⟩) ?_ ?_
   rotate_left
   · intro w'
     go_simp
     with_reducible rfl
   rotate_left
   · simp only [Act.put, zS, zZ, zC, i64_w, i32_w]
     rfl
   refine take_ (i := 7) (N := some 35) (v := ?_) (a' := ?_) #[T_, T_, T_, T_, T_, T_, T_, T_, T_, T_, F_, F_, F_, F_, F_, F_, F_, F_, F_, F_, F_, F_, F_, F_, F_, F_, F_, F_, F_, F_, F_, F_, F_, F_, F_, F_, F_, F_, F_, F_, F_, F_] rfl rfl (take_ofW HT_.out HW_.out (by kernel_rfl)) (fun _ _ _ h => h) (Or.inl ⟨by rfl, ?_⟩) hHeld ?_ ?_
   rotate_left
   · rintro w' ⟨s0, s1, s2, s3, s4, s5, s6, s7, s8, s9, s10, s11, s12, s13, s14, s15, s16, s17, s18, s19, s20, s21, s22, s23, s24, s25, s26, s27, s28, s29⟩
     first | exact xl15_ rfl rfl Try.underlying35 rfl (by kernel_rfl) s0 s1 s2 s3 s4 s5 s6 s7 s8 s9 s10 s11 s12 s13 s14 | exact xl15_ rfl rfl Try.underlying35 rfl (by kernel_rfl) s15 s16 s17 s18 s19 s20 s21 s22 s23 s24 s25 s26 s27 s28 s29 | (go_simp; with_reducible rfl)
   rotate_left
   · simp only [Act.put, zS, zZ, zC, i64_w, i32_w]
     rfl
   refine take_ (i := 10) (N := some 38) (v := ?_) (a' := ?_) #[T_, T_, T_, T_, T_, T_, T_, T_, T_, T_, T_, F_, F_, F_, F_, F_, F_, F_, F_, F_, F_, F_, F_, F_, F_, F_, F_, F_, F_, F_, F_, F_, F_, F_, F_, F_, F_, F_, F_, F_, F_, F_] rfl rfl (take_ofW HT_.out HW_.out (by kernel_rfl)) (fun _ _ _ h => h) (Or.inl ⟨by rfl, ?_⟩) hHeld ?_ ?_
   rotate_left
   · rintro w' ⟨s0, s1, s2, s3, s4, s5, s6, s7, s8, s9, s10, s11, s12, s13, s14, s15, s16, s17, s18, s19, s20, s21, s22, s23, s24, s25, s26, s27, s28, s29⟩
     first | exact xl15_ rfl rfl Try.underlying35 rfl (by kernel_rfl) s0 s1 s2 s3 s4 s5 s6 s7 s8 s9 s10 s11 s12 s13 s14 | exact xl15_ rfl rfl Try.underlying35 rfl (by kernel_rfl) s15 s16 s17 s18 s19 s20 s21 s22 s23 s24 s25 s26 s27 s28 s29 | (go_simp; with_reducible rfl)
   rotate_left
   · simp only [Act.put, zS, zZ, zC, i64_w, i32_w]
     rfl
   refine pure_ (i := 11) (N := some 39) (v := ?_) (a' := ?_) #[T_, T_, T_, T_, T_, T_, T_, T_, T_, T_, T_, T_, F_, F_, F_, F_, F_, F_, F_, F_, F_, F_, F_, F_, F_, F_, F_, F_, F_, F_, F_, F_, F_, F_, F_, F_, F_, F_, F_, F_, F_, F_] rfl rfl (any_of HT_.out (by kernel_rfl)) (fun _ _ _ h => h) (Or.inl ⟨by rfl, ?_⟩) ?_ ?_
   rotate_left
   · intro w'
     go_simp
     with_reducible rfl
   rotate_left
   · simp only [Act.put, zS, zZ, zC, i64_w, i32_w]
     rfl
   refine pure_ (i := 12) (N := some 40) (v := ?_) (a' := ?_) #[T_, T_, T_, T_, T_, T_, T_, T_, T_, T_, T_, T_, T_, F_, F_, F_, F_, F_, F_, F_, F_, F_, F_, F_, F_, F_, F_, F_, F_, F_, F_, F_, F_, F_, F_, F_, F_, F_, F_, F_, F_, F_] rfl rfl (any_of HT_.out (by kernel_rfl)) (fun _ _ _ h => h) (Or.inl ⟨by rfl, ?_⟩) ?_ ?_
   rotate_left
   · intro w'
     go_simp
     with_reducible rfl
   rotate_left
   · simp only [Act.put, zS, zZ, zC, i64_w, i32_w]
     rfl
   refine pure_ (i := 13) (N := some 41) (v := ?_) (a' := ?_) #[T_, T_, T_, T_, T_, T_, T_, T_, T_, T_, T_, T_, T_, T_, F_, F_, F_, F_, F_, F_, F_, F_, F_, F_, F_, F_, F_, F_, F_, F_, F_, F_, F_, F_, F_, F_, F_, F_, F_, F_, F_, F_] rfl rfl (any_of HT_.out (by kernel_rfl)) (fun _ _ _ h => h) (Or.inl ⟨by rfl, ?_⟩) ?_ ?_
   rotate_left
   · intro w'
     go_simp
     with_reducible rfl
   rotate_left
   · simp only [Act.put, zS, zZ, zC, i64_w, i32_w]
     rfl
   refine pure_ (i := 14) (N := some 42) (v := ?_) (a' := ?_) #[T_, T_, T_, T_, T_, T_, T_, T_, T_, T_, T_, T_, T_, T_, T_, F_, F_, F_, F_, F_, F_, F_, F_, F_, F_, F_, F_, F_, F_, F_, F_, F_, F_, F_, F_, F_, F_, F_, F_, F_, F_, F_] rfl rfl (any_of HT_.out (by kernel_rfl)) (fun _ _ _ h => h) (Or.inl ⟨by rfl, ?_⟩) ?_ ?_
   rotate_left
   · intro w'
     go_simp
     with_reducible rfl
   rotate_left
   · simp only [Act.put, zS, zZ, zC, i64_w, i32_w]
     rfl
   refine pure_ (i := 16) (N := some 44) (v := ?_) (a' := ?_) #[T_, T_, T_, T_, T_, T_, T_, T_, T_, T_, T_, T_, T_, T_, T_, F_, T_, F_, F_, F_, F_, F_, F_, F_, F_, F_, F_, F_, F_, F_, F_, F_, F_, F_, F_, F_, F_, F_, F_, F_, F_, F_] rfl rfl (any_of HT_.out (by kernel_rfl)) (fun _ _ _ h => h) (Or.inl ⟨by rfl, ?_⟩) ?_ ?_
   rotate_left
   · intro w'
     go_simp
     with_reducible rfl
   rotate_left
   · simp only [Act.put, zS, zZ, zC, i64_w, i32_w]
     rfl
   refine take_ (i := 15) (N := some 43) (v := ?_) (a' := ?_) #[T_, T_, T_, T_, T_, T_, T_, T_, T_, T_, T_, T_, T_, T_, T_, T_, T_, F_, F_, F_, F_, F_, F_, F_, F_, F_, F_, F_, F_, F_, F_, F_, F_, F_, F_, F_, F_, F_, F_, F_, F_, F_] rfl rfl (take_ofW HT_.out HW_.out (by kernel_rfl)) (fun _ _ _ h => h) (Or.inl ⟨by rfl, ?_⟩) hHeld ?_ ?_
   rotate_left
   · rintro w' ⟨s0, s1, s2, s3, s4, s5, s6, s7, s8, s9, s10, s11, s12, s13, s14, s15, s16, s17, s18, s19, s20, s21, s22, s23, s24, s25, s26, s27, s28, s29⟩
     first | exact xl15_ rfl rfl Try.underlying35 rfl (by kernel_rfl) s0 s1 s2 s3 s4 s5 s6 s7 s8 s9 s10 s11 s12 s13 s14 | exact xl15_ rfl rfl Try.underlying35 rfl (by kernel_rfl) s15 s16 s17 s18 s19 s20 s21 s22 s23 s24 s25 s26 s27 s28 s29 | (go_simp; with_reducible rfl)
   rotate_left
   · simp only [Act.put, zS, zZ, zC, i64_w, i32_w]
     rfl
   refine take_ (i := 17) (N := some 45) (v := ?_) (a' := ?_) #[T_, T_, T_, T_, T_, T_, T_, T_, T_, T_, T_, T_, T_, T_, T_, T_, T_, T_, F_, F_, F_, F_, F_, F_, F_, F_, F_, F_, F_, F_, F_, F_, F_, F_, F_, F_, F_, F_, F_, F_, F_, F_] rfl rfl (take_ofW HT_.out HW_.out (by kernel_rfl)) (fun _ _ _ h => h) (Or.inl ⟨by rfl, ?_⟩) hHeld ?_ ?_
   rotate_left
   · rintro w' ⟨s0, s1, s2, s3, s4, s5, s6, s7, s8, s9, s10, s11, s12, s13, s14, s15, s16, s17, s18, s19, s20, s21, s22, s23, s24, s25, s26, s27, s28, s29⟩
     first | exact xl15_ rfl rfl Try.underlying35 rfl (by kernel_rfl) s0 s1 s2 s3 s4 s5 s6 s7 s8 s9 s10 s11 s12 s13 s14 | exact xl15_ rfl rfl Try.underlying35 rfl (by kernel_rfl) s15 s16 s17 s18 s19 s20 s21 s22 s23 s24 s25 s26 s27 s28 s29 | (go_simp; with_reducible rfl)
   rotate_left
   · simp only [Act.put, zS, zZ, zC, i64_w, i32_w]
     rfl
   refine pure_ (i := 18) (N := some 46) (v := ?_) (a' := ?_) #[T_, T_, T_, T_, T_, T_, T_, T_, T_, T_, T_, T_, T_, T_, T_, T_, T_, T_, T_, F_, F_, F_, F_, F_, F_, F_, F_, F_, F_, F_, F_, F_, F_, F_, F_, F_, F_, F_, F_, F_, F_, F_] rfl rfl (any_of HT_.out (by kernel_rfl)) (fun _ _ _ h => h) (Or.inl ⟨by rfl, ?_⟩) ?_ ?_
   rotate_left
   · intro w'
     go_simp
     with_reducible rfl
   rotate_left
   · simp only [Act.put, zS, zZ, zC, i64_w, i32_w]
     rfl
   refine pure_ (i := 19) (N := some 47) (v := ?_) (a' := ?_) #[T_, T_, T_, T_, T_, T_, T_, T_, T_, T_, T_, T_, T_, T_, T_, T_, T_, T_, T_, T_, F_, F_, F_, F_, F_, F_, F_, F_, F_, F_, F_, F_, F_, F_, F_, F_, F_, F_, F_, F_, F_, F_] rfl rfl (any_of HT_.out (by kernel_rfl)) (fun _ _ _ h => h) (Or.inl ⟨by rfl, ?_⟩) ?_ ?_
   rotate_left
   · intro w'
     go_simp
     with_reducible rfl
   rotate_left
   · simp only [Act.put, zS, zZ, zC, i64_w, i32_w]
     rfl
   refine pure_ (i := 20) (N := some 48) (v := ?_) (a' := ?_) #[T_, T_, T_, T_, T_, T_, T_, T_, T_, T_, T_, T_, T_, T_, T_, T_, T_, T_, T_, T_, T_, F_, F_, F_, F_, F_, F_, F_, F_, F_, F_, F_, F_, F_, F_, F_, F_, F_, F_, F_, F_, F_] rfl rfl (any_of HT_.out (by kernel_rfl)) (fun _ _ _ h => h) (Or.inl ⟨by rfl, ?_⟩) ?_ ?_
   rotate_left
   · intro w'
     go_simp
     with_reducible rfl
   rotate_left
   · simp only [Act.put, zS, zZ, zC, i64_w, i32_w]
     rfl
   refine pure_ (i := 21) (N := some 49) (v := ?_) (a' := ?_) #[T_, T_, T_, T_, T_, T_, T_, T_, T_, T_, T_, T_, T_, T_, T_, T_, T_, T_, T_, T_, T_, T_, F_, F_, F_, F_, F_, F_, F_, F_, F_, F_, F_, F_, F_, F_, F_, F_, F_, F_, F_, F_] rfl rfl (any_of HT_.out (by kernel_rfl)) (fun _ _ _ h => h) (Or.inl ⟨by rfl, ?_⟩) ?_ ?_
   rotate_left
   · intro w'
     go_simp
     with_reducible rfl
   rotate_left
   · simp only [Act.put, zS, zZ, zC, i64_w, i32_w]
     rfl
   refine pure_ (i := 22) (N := some 50) (v := ?_) (a' := ?_) #[T_, T_, T_, T_, T_, T_, T_, T_, T_, T_, T_, T_, T_, T_, T_, T_, T_, T_, T_, T_, T_, T_, T_, F_, F_, F_, F_, F_, F_, F_, F_, F_, F_, F_, F_, F_, F_, F_, F_, F_, F_, F_] rfl rfl (any_of HT_.out (by kernel_rfl)) (fun _ _ _ h => h) (Or.inl ⟨by rfl, ?_⟩) ?_ ?_
   rotate_left
   · intro w'
     go_simp
     with_reducible rfl
   rotate_left
   · simp only [Act.put, zS, zZ, zC, i64_w, i32_w]
     rfl
   refine pure_ (i := 25) (N := some 53) (v := ?_) (a' := ?_) #[T_, T_, T_, T_, T_, T_, T_, T_, T_, T_, T_, T_, T_, T_, T_, T_, T_, T_, T_, T_, T_, T_, T_, F_, F_, T_, F_, F_, F_, F_, F_, F_, F_, F_, F_, F_, F_, F_, F_, F_, F_, F_] rfl rfl (any_of HT_.out (by kernel_rfl)) (fun _ _ _ h => h) (Or.inl ⟨by rfl, ?_⟩) ?_ ?_
   rotate_left
   · intro w'
     go_simp
     with_reducible rfl
   rotate_left
   · simp only [Act.put, zS, zZ, zC, i64_w, i32_w]
     rfl
   refine pure_ (i := 26) (N := some 54) (v := ?_) (a' := ?_) #[T_, T_, T_, T_, T_, T_, T_, T_, T_, T_, T_, T_, T_, T_, T_, T_, T_, T_, T_, T_, T_, T_, T_, F_, F_, T_, T_, F_, F_, F_, F_, F_, F_, F_, F_, F_, F_, F_, F_, F_, F_, F_] rfl rfl (any_of HT_.out (by kernel_rfl)) (fun _ _ _ h => h) (Or.inl ⟨by rfl, ?_⟩) ?_ ?_
   rotate_left
   · intro w'
     go_simp
     with_reducible rfl
   rotate_left
   · simp only [Act.put, zS, zZ, zC, i64_w, i32_w]
     rfl
   refine pure_ (i := 27) (N := some 55) (v := ?_) (a' := ?_) #[T_, T_, T_, T_, T_, T_, T_, T_, T_, T_, T_, T_, T_, T_, T_, T_, T_, T_, T_, T_, T_, T_, T_, F_, F_, T_, T_, T_, F_, F_, F_, F_, F_, F_, F_, F_, F_, F_, F_, F_, F_, F_] rfl rfl (any_of HT_.out (by kernel_rfl)) (fun _ _ _ h => h) (Or.inl ⟨by rfl, ?_⟩) ?_ ?_
   rotate_left
   · intro w'
     go_simp
     with_reducible rfl
   rotate_left
   · simp only [Act.put, zS, zZ, zC, i64_w, i32_w]
     rfl
   refine take_ (i := 23) (N := some 51) (v := ?_) (a' := ?_) #[T_, T_, T_, T_, T_, T_, T_, T_, T_, T_, T_, T_, T_, T_, T_, T_, T_, T_, T_, T_, T_, T_, T_, T_, F_, T_, T_, T_, F_, F_, F_, F_, F_, F_, F_, F_, F_, F_, F_, F_, F_, F_] rfl rfl (take_ofW HT_.out HW_.out (by kernel_rfl)) (fun _ _ _ h => h) (Or.inl ⟨by rfl, ?_⟩) hHeld ?_ ?_
   rotate_left
   · rintro w' ⟨s0, s1, s2, s3, s4, s5, s6, s7, s8, s9, s10, s11, s12, s13, s14, s15, s16, s17, s18, s19, s20, s21, s22, s23, s24, s25, s26, s27, s28, s29⟩
     first | exact xl15_ rfl rfl Try.underlying35 rfl (by kernel_rfl) s0 s1 s2 s3 s4 s5 s6 s7 s8 s9 s10 s11 s12 s13 s14 | exact xl15_ rfl rfl Try.underlying35 rfl (by kernel_rfl) s15 s16 s17 s18 s19 s20 s21 s22 s23 s24 s25 s26 s27 s28 s29 | (go_simp; with_reducible rfl)
   rotate_left
   · simp only [Act.put, zS, zZ, zC, i64_w, i32_w]
     rfl
   refine take_ (i := 28) (N := some 56) (v := ?_) (a' := ?_) #[T_, T_, T_, T_, T_, T_, T_, T_, T_, T_, T_, T_, T_, T_, T_, T_, T_, T_, T_, T_, T_, T_, T_, T_, F_, T_, T_, T_, T_, F_, F_, F_, F_, F_, F_, F_, F_, F_, F_, F_, F_, F_] rfl rfl (take_ofW HT_.out HW_.out (by kernel_rfl)) (fun _ _ _ h => h) (Or.inl ⟨by rfl, ?_⟩) hHeld ?_ ?_
   rotate_left
   · rintro w' ⟨s0, s1, s2, s3, s4, s5, s6, s7, s8, s9, s10, s11, s12, s13, s14, s15, s16, s17, s18, s19, s20, s21, s22, s23, s24, s25, s26, s27, s28, s29⟩
     first | exact xl15_ rfl rfl Try.underlying35 rfl (by kernel_rfl) s0 s1 s2 s3 s4 s5 s6 s7 s8 s9 s10 s11 s12 s13 s14 | exact xl15_ rfl rfl Try.underlying35 rfl (by kernel_rfl) s15 s16 s17 s18 s19 s20 s21 s22 s23 s24 s25 s26 s27 s28 s29 | (go_simp; with_reducible rfl)
   rotate_left
   · simp only [Act.put, zS, zZ, zC, i64_w, i32_w]
     rfl
   refine one_ (i := 24) (N := some 52) #[T_, T_, T_, T_, T_, T_, T_, T_, T_, T_, T_, T_, T_, T_, T_, T_, T_, T_, T_, T_, T_, T_, T_, T_, T_, T_, T_, T_, T_, F_, F_, F_, F_, F_, F_, F_, F_, F_, F_, F_, F_, F_] rfl rfl (one_of HT_.out (by kernel_rfl)) (by decide) (fun K hK => ?_)
   refine goes_ Try.func21 (by kernel_rfl) rfl #[.float .f64 ((rd_T35 l0 t333).f3.f2)] (by rfl) rfl rfl (by (try simp only [List.map_toArray, List.map_cons, List.map_nil]); first | done | rfl | (simp only [List.length_drop, List.length_take]; rfl)) ?_
   with_reducible refine (ropewayref01_Bits.calls ((rd_T35 l0 t333).f3.f2) t338 _ A56.out).mono ?_
   rintro e w' ⟨rfl, ⟨nd, rfl⟩⟩
   refine ⟨_, rfl, ?_⟩
   refine hK.out _ _ ⟨(zL BK337.out 0).trans rfl, (zL BK337.out 1).trans rfl, (zL BK337.out 2).trans rfl, (zL BK337.out 3).trans rfl, (zL BK337.out 4).trans rfl, (zL BK337.out 5).trans rfl, (zL BK337.out 6).trans rfl, (zL BK337.out 7).trans rfl, (zL BK337.out 8).trans rfl, (zL BK337.out 9).trans rfl, (zL BK337.out 10).trans rfl, (zL BK337.out 11).trans rfl, (zL BK337.out 12).trans rfl, (zL BK337.out 13).trans rfl, (zL BK337.out 14).trans rfl, (zL BK336.out 0).trans rfl, (zL BK336.out 1).trans rfl, (zL BK336.out 2).trans rfl, (zL BK336.out 3).trans rfl, (zL BK336.out 4).trans rfl, (zL BK336.out 5).trans rfl, (zL BK336.out 6).trans rfl, (zL BK336.out 7).trans rfl, (zL BK336.out 8).trans rfl, (zL BK336.out 9).trans rfl, (zL BK336.out 10).trans rfl, (zL BK336.out 11).trans rfl, (zL BK336.out 12).trans rfl, (zL BK336.out 13).trans rfl, (zL BK336.out 14).trans rfl⟩ (fun hHeld => ?_)
   clear hK K
   refine norm_ (a' := ?_) ?_ ?_
   rotate_left
   · show Act.put _ (some 52) _ = _
     simp only [Act.put, zS, zZ, zC, i64_w, i32_w]
     rfl
   refine one_ (i := 29) (N := some 57) #[T_, T_, T_, T_, T_, T_, T_, T_, T_, T_, T_, T_, T_, T_, T_, T_, T_, T_, T_, T_, T_, T_, T_, T_, T_, T_, T_, T_, T_, T_, F_, F_, F_, F_, F_, F_, F_, F_, F_, F_, F_, F_] rfl rfl (one_of HT_.out (by kernel_rfl)) (by decide) (fun K hK => ?_)
   refine goes_ Try.func21 (by kernel_rfl) rfl #[.float .f64 ((rd_T35 l0 a1).f4.f2.f2)] (by rfl) rfl rfl (by (try simp only [List.map_toArray, List.map_cons, List.map_nil]); first | done | rfl | (simp only [List.length_drop, List.length_take]; rfl)) ?_
   with_reducible refine (ropewayref01_Bits.calls ((rd_T35 l0 a1).f4.f2.f2) t339 _ A57.out).mono ?_
   rintro e w' ⟨rfl, ⟨nd, rfl⟩⟩
   refine ⟨_, rfl, ?_⟩
   refine hK.out _ _ ⟨(zL BK337.out 0).trans rfl, (zL BK337.out 1).trans rfl, (zL BK337.out 2).trans rfl, (zL BK337.out 3).trans rfl, (zL BK337.out 4).trans rfl, (zL BK337.out 5).trans rfl, (zL BK337.out 6).trans rfl, (zL BK337.out 7).trans rfl, (zL BK337.out 8).trans rfl, (zL BK337.out 9).trans rfl, (zL BK337.out 10).trans rfl, (zL BK337.out 11).trans rfl, (zL BK337.out 12).trans rfl, (zL BK337.out 13).trans rfl, (zL BK337.out 14).trans rfl, (zL BK336.out 0).trans rfl, (zL BK336.out 1).trans rfl, (zL BK336.out 2).trans rfl, (zL BK336.out 3).trans rfl, (zL BK336.out 4).trans rfl, (zL BK336.out 5).trans rfl, (zL BK336.out 6).trans rfl, (zL BK336.out 7).trans rfl, (zL BK336.out 8).trans rfl, (zL BK336.out 9).trans rfl, (zL BK336.out 10).trans rfl, (zL BK336.out 11).trans rfl, (zL BK336.out 12).trans rfl, (zL BK336.out 13).trans rfl, (zL BK336.out 14).trans rfl⟩ (fun hHeld => ?_)
   clear hK K
   refine norm_ (a' := ?_) ?_ ?_
   rotate_left
   · show Act.put _ (some 57) _ = _
     simp only [Act.put, zS, zZ, zC, i64_w, i32_w]
     rfl
   refine pure_ (i := 30) (N := some 58) (v := ?_) (a' := ?_) #[T_, T_, T_, T_, T_, T_, T_, T_, T_, T_, T_, T_, T_, T_, T_, T_, T_, T_, T_, T_, T_, T_, T_, T_, T_, T_, T_, T_, T_, T_, T_, F_, F_, F_, F_, F_, F_, F_, F_, F_, F_, F_] rfl rfl (any_of HT_.out (by kernel_rfl)) (fun _ _ _ h => h) (Or.inl ⟨by rfl, ?_⟩) ?_ ?_
   rotate_left
   · intro w'
     go_simp
     with_reducible rfl
   rotate_left
   · simp only [Act.put, zS, zZ, zC, i64_w, i32_w]
     rfl
   refine pure_ (i := 31) (N := some 59) (v := ?_) (a' := ?_) #[T_, T_, T_, T_, T_, T_, T_, T_, T_, T_, T_, T_, T_, T_, T_, T_, T_, T_, T_, T_, T_, T_, T_, T_, T_, T_, T_, T_, T_, T_, T_, T_, F_, F_, F_, F_, F_, F_, F_, F_, F_, F_] rfl rfl (any_of HT_.out (by kernel_rfl)) (fun _ _ _ h => h) (Or.inl ⟨by rfl, ?_⟩) ?_ ?_
   rotate_left
   · intro w'
     go_simp
     with_reducible rfl
   rotate_left
   · simp only [Act.put, zS, zZ, zC, i64_w, i32_w]
     rfl
   refine pure_ (i := 32) (N := some 60) (v := ?_) (a' := ?_) #[T_, T_, T_, T_, T_, T_, T_, T_, T_, T_, T_, T_, T_, T_, T_, T_, T_, T_, T_, T_, T_, T_, T_, T_, T_, T_, T_, T_, T_, T_, T_, T_, T_, F_, F_, F_, F_, F_, F_, F_, F_, F_] rfl rfl (any_of HT_.out (by kernel_rfl)) (fun _ _ _ h => h) (Or.inl ⟨by rfl, ?_⟩) ?_ ?_
   rotate_left
   · intro w'
     go_simp
     with_reducible rfl
   rotate_left
   · simp only [Act.put, zS, zZ, zC, i64_w, i32_w]
     rfl
   refine pure_ (i := 33) (N := some 61) (v := ?_) (a' := ?_) #[T_, T_, T_, T_, T_, T_, T_, T_, T_, T_, T_, T_, T_, T_, T_, T_, T_, T_, T_, T_, T_, T_, T_, T_, T_, T_, T_, T_, T_, T_, T_, T_, T_, T_, F_, F_, F_, F_, F_, F_, F_, F_] rfl rfl (any_of HT_.out (by kernel_rfl)) (fun _ _ _ h => h) (Or.inl ⟨by rfl, ?_⟩) ?_ ?_
   rotate_left
   · intro w'
     go_simp
     with_reducible rfl
   rotate_left
   · simp only [Act.put, zS, zZ, zC, i64_w, i32_w]
     rfl
   refine pure_ (i := 35) (N := some 63) (v := ?_) (a' := ?_) #[T_, T_, T_, T_, T_, T_, T_, T_, T_, T_, T_, T_, T_, T_, T_, T_, T_, T_, T_, T_, T_, T_, T_, T_, T_, T_, T_, T_, T_, T_, T_, T_, T_, T_, F_, T_, F_, F_, F_, F_, F_, F_] rfl rfl (any_of HT_.out (by kernel_rfl)) (fun _ _ _ h => h) (Or.inl ⟨by rfl, ?_⟩) ?_ ?_
   rotate_left
   · intro w'
     go_simp
     with_reducible rfl
   rotate_left
   · simp only [Act.put, zS, zZ, zC, i64_w, i32_w]
     rfl
   refine pure_ (i := 36) (N := some 64) (v := ?_) (a' := ?_) #[T_, T_, T_, T_, T_, T_, T_, T_, T_, T_, T_, T_, T_, T_, T_, T_, T_, T_, T_, T_, T_, T_, T_, T_, T_, T_, T_, T_, T_, T_, T_, T_, T_, T_, F_, T_, T_, F_, F_, F_, F_, F_] rfl rfl (any_of HT_.out (by kernel_rfl)) (fun _ _ _ h => h) (Or.inl ⟨by rfl, ?_⟩) ?_ ?_
   rotate_left
   · intro w'
     go_simp
     with_reducible rfl
   rotate_left
   · simp only [Act.put, zS, zZ, zC, i64_w, i32_w]
     rfl
   refine pure_ (i := 37) (N := some 65) (v := ?_) (a' := ?_) #[T_, T_, T_, T_, T_, T_, T_, T_, T_, T_, T_, T_, T_, T_, T_, T_, T_, T_, T_, T_, T_, T_, T_, T_, T_, T_, T_, T_, T_, T_, T_, T_, T_, T_, F_, T_, T_, T_, F_, F_, F_, F_] rfl rfl (any_of HT_.out (by kernel_rfl)) (fun _ _ _ h => h) (Or.inl ⟨by rfl, ?_⟩) ?_ ?_
   rotate_left
   · intro w'
     go_simp
     with_reducible rfl
   rotate_left
   · simp only [Act.put, zS, zZ, zC, i64_w, i32_w]
     rfl
   refine pure_ (i := 38) (N := some 66) (v := ?_) (a' := ?_) #[T_, T_, T_, T_, T_, T_, T_, T_, T_, T_, T_, T_, T_, T_, T_, T_, T_, T_, T_, T_, T_, T_, T_, T_, T_, T_, T_, T_, T_, T_, T_, T_, T_, T_, F_, T_, T_, T_, T_, F_, F_, F_] rfl rfl (any_of HT_.out (by kernel_rfl)) (fun _ _ _ h => h) (Or.inl ⟨by rfl, ?_⟩) ?_ ?_
   rotate_left
   · intro w'
     go_simp
     with_reducible rfl
   rotate_left
   · simp only [Act.put, zS, zZ, zC, i64_w, i32_w]
     rfl
   refine take_ (i := 34) (N := some 62) (v := ?_) (a' := ?_) #[T_, T_, T_, T_, T_, T_, T_, T_, T_, T_, T_, T_, T_, T_, T_, T_, T_, T_, T_, T_, T_, T_, T_, T_, T_, T_, T_, T_, T_, T_, T_, T_, T_, T_, T_, T_, T_, T_, T_, F_, F_, F_] rfl rfl (take_ofW HT_.out HW_.out (by kernel_rfl)) (fun _ _ _ h => h) (Or.inl ⟨by rfl, ?_⟩) hHeld ?_ ?_
   rotate_left
   · rintro w' ⟨s0, s1, s2, s3, s4, s5, s6, s7, s8, s9, s10, s11, s12, s13, s14, s15, s16, s17, s18, s19, s20, s21, s22, s23, s24, s25, s26, s27, s28, s29⟩
     first | exact xl15_ rfl rfl Try.underlying35 rfl (by kernel_rfl) s0 s1 s2 s3 s4 s5 s6 s7 s8 s9 s10 s11 s12 s13 s14 | exact xl15_ rfl rfl Try.underlying35 rfl (by kernel_rfl) s15 s16 s17 s18 s19 s20 s21 s22 s23 s24 s25 s26 s27 s28 s29 | (go_simp; with_reducible rfl)
   rotate_left
   · simp only [Act.put, zS, zZ, zC, i64_w, i32_w]
     rfl
   refine take_ (i := 39) (N := some 67) (v := ?_) (a' := ?_) #[T_, T_, T_, T_, T_, T_, T_, T_, T_, T_, T_, T_, T_, T_, T_, T_, T_, T_, T_, T_, T_, T_, T_, T_, T_, T_, T_, T_, T_, T_, T_, T_, T_, T_, T_, T_, T_, T_, T_, T_, F_, F_] rfl rfl (take_ofW HT_.out HW_.out (by kernel_rfl)) (fun _ _ _ h => h) (Or.inl ⟨by rfl, ?_⟩) hHeld ?_ ?_
   rotate_left
   · rintro w' ⟨s0, s1, s2, s3, s4, s5, s6, s7, s8, s9, s10, s11, s12, s13, s14, s15, s16, s17, s18, s19, s20, s21, s22, s23, s24, s25, s26, s27, s28, s29⟩
     first | exact xl15_ rfl rfl Try.underlying35 rfl (by kernel_rfl) s0 s1 s2 s3 s4 s5 s6 s7 s8 s9 s10 s11 s12 s13 s14 | exact xl15_ rfl rfl Try.underlying35 rfl (by kernel_rfl) s15 s16 s17 s18 s19 s20 s21 s22 s23 s24 s25 s26 s27 s28 s29 | (go_simp; with_reducible rfl)
   rotate_left
   · simp only [Act.put, zS, zZ, zC, i64_w, i32_w]
     rfl
   refine pure_ (i := 40) (N := some 68) (v := ?_) (a' := ?_) #[T_, T_, T_, T_, T_, T_, T_, T_, T_, T_, T_, T_, T_, T_, T_, T_, T_, T_, T_, T_, T_, T_, T_, T_, T_, T_, T_, T_, T_, T_, T_, T_, T_, T_, T_, T_, T_, T_, T_, T_, T_, F_] rfl rfl (any_of HT_.out (by kernel_rfl)) (fun _ _ _ h => h) (Or.inl ⟨by rfl, ?_⟩) ?_ ?_
   rotate_left
   · intro w'
     go_simp
     with_reducible rfl
   rotate_left
   · simp only [Act.put, zS, zZ, zC, i64_w, i32_w]
     rfl
   refine pure_ (i := 41) (N := some 69) (v := ?_) (a' := ?_) #[T_, T_, T_, T_, T_, T_, T_, T_, T_, T_, T_, T_, T_, T_, T_, T_, T_, T_, T_, T_, T_, T_, T_, T_, T_, T_, T_, T_, T_, T_, T_, T_, T_, T_, T_, T_, T_, T_, T_, T_, T_, T_] rfl rfl (any_of HT_.out (by kernel_rfl)) (fun _ _ _ h => h) (Or.inl ⟨by rfl, ?_⟩) ?_ ?_
   rotate_left
   · intro w'
     go_simp
     with_reducible rfl
   rotate_left
   · simp only [Act.put, zS, zZ, zC, i64_w, i32_w]
     rfl
   refine done_ (done_of HT_.out (by kernel_rfl)) ?_
   try go_wp2
   go_meet
   case rel => exact ⟨_, ((((rd_T35 l0 t333).f0) != ((rd_T35 l0 a1).f4.f2.f1.f1))), (by first | rfl | (simp; done) | (simp [*]; done) | (simp; grind)), H', ⟨by first | omega | exact Nat.le_refl _⟩, ⟨blf_⟩, ⟨blf_⟩, ⟨blf_⟩, ⟨bel_⟩⟩
  case rest =>
   clear HC15
   try clear c2
   try clear p2
   try clear c5
   try clear c21
   try clear c53
   try clear c53b0
   try clear c53b1
   try clear c54
   try clear c54b0
   try clear c54b1
   try clear c55
   try clear c55b0
   try clear c58
   try clear c58b0
   try clear c58b1
   obtain ⟨kq, x69_14, rfl, HA, HJ14, BK331, BK336, BK337, HB⟩ := hcut
   cases kq with
   | zero => exact absurd HA.out (by simp [ropewaylaw21_PastSources.j0])
   | succ kj14 =>
    have H := HA.out
    clear HA
    simp only [ropewaylaw21_PastSources.j0] at H
    by_cases c61 : x69_14 = true
    · subst c61
      have H1 : (some false) = some r := by rw [if_pos rfl] at H; exact H
      clear H
      have H := H1
      clear H1
      exact absurd (Option.some.inj H) (by rw [hr1_.out]; decide)
    replace c61 := Bool.eq_false_iff.mpr c61
    subst c61
    have H1 : ((past_Fits.f kj14 l0).bind fun t340 => (if t340 = true then ((some (([] : List (S35)) : List (S35))).bind fun y341 => (if y341.length + l0.length < 1172812402961 then ((some (y341 ++ l0 : List (S35))).bind fun y344 => ((some (([(⟨a2_0, a2_1, (-1), (⟨a2_3, a2_4, a2_5, (⟨a2_6, a2_7⟩ : S24)⟩ : S26), (⟨a2_8, (⟨a2_9, a2_10⟩ : S24), (⟨a2_11, (⟨a2_12, a2_13⟩ : S29), a2_14⟩ : S31)⟩ : S33)⟩ : S35)] : List (S35)) : List (S35))).bind fun y347 => (if y344.length + y347.length < 1172812402961 then ((past_Fits.f kj14 (y344 ++ y347)).bind fun t353 => (some t353)) else (none)))) else (none))) else (some true))) = some r := by rw [if_neg (show ¬ (false = true) by decide)] at H; exact H
    clear H
    have H := H1
    clear H1
    replace H := Option.bind_eq_some_iff.mp H
    obtain ⟨t340, A620, H⟩ := H
    replace H : (if t340 = true then ((some (([] : List (S35)) : List (S35))).bind fun y341 => (if y341.length + l0.length < 1172812402961 then ((some (y341 ++ l0 : List (S35))).bind fun y344 => ((some (([(⟨a2_0, a2_1, (-1), (⟨a2_3, a2_4, a2_5, (⟨a2_6, a2_7⟩ : S24)⟩ : S26), (⟨a2_8, (⟨a2_9, a2_10⟩ : S24), (⟨a2_11, (⟨a2_12, a2_13⟩ : S29), a2_14⟩ : S31)⟩ : S33)⟩ : S35)] : List (S35)) : List (S35))).bind fun y347 => (if y344.length + y347.length < 1172812402961 then ((past_Fits.f kj14 (y344 ++ y347)).bind fun t353 => (some t353)) else (none)))) else (none))) else (some true)) = some r := H
    have A62 := zM A620
    clear A620
    by_cases c63 : t340 = true
    rotate_left
    · replace c63 := Bool.eq_false_iff.mpr c63
      subst c63
      have H1 : (some true) = some r := by rw [if_neg (show ¬ (false = true) by decide)] at H; exact H
      clear H
      have H := H1
      clear H1
      obtain rfl := Option.some.inj H
      have hnb83 := NB331_336.out
      have hnc83 := NB336_331.out
      have hnb84 := NB331_337.out
      have hnc84 := NB337_331.out
      obtain ⟨hcz85_0, hcz85_1, hcz85_2, hcz85_3, hcz85_4, hcz85_5, hcz85_6, hcz85_7, hcz85_8, hcz85_9, hcz85_10, hcz85_11, hcz85_12, hcz85_13, hcz85_14⟩ := r15_ BK331.out
      obtain ⟨hfz85_0, hfz85_1, hfz85_2, hfz85_3, hfz85_4, hfz85_5, hfz85_6, hfz85_7, hfz85_8, hfz85_9, hfz85_10, hfz85_11, hfz85_12, hfz85_13, hfz85_14⟩ := f15_ BK331.out
      try go_wp2
      have n0_ : Aside0 ((wc.setCell ⟨gb331, 2, none⟩ (.int .i64 (-1))).heap[gb331]? = some (.cells #[.int .i64 a2_0, .int .i64 a2_1, .int .i64 (-1), .int .i64 a2_3, .int .i64 a2_4, .float .f64 a2_5, .int .i64 a2_6, .int .i64 a2_7, .int .i64 a2_8, .int .i64 a2_9, .int .i64 a2_10, .int .i64 a2_11, .int .i64 a2_12, .int .i64 a2_13, .float .f64 a2_14] 35 (0, 0))) := ⟨by (with_reducible repeat (first | refine zN ?_ _ | refine zD ?_ | refine zA ?_ _)); refine blk_put (cs := #[.int .i64 a2_0, .int .i64 a2_1, .int .i64 a2_2, .int .i64 a2_3, .int .i64 a2_4, .float .f64 a2_5, .int .i64 a2_6, .int .i64 a2_7, .int .i64 a2_8, .int .i64 a2_9, .int .i64 a2_10, .int .i64 a2_11, .int .i64 a2_12, .int .i64 a2_13, .float .f64 a2_14]) ?_ 2 _ rfl; (with_reducible repeat (first | refine zN ?_ _ | refine zD ?_ | refine zA ?_ _)); exact BK331.out⟩
      have n1_ : Aside0 ((wc.setCell ⟨gb331, 2, none⟩ (.int .i64 (-1))).heap[gb336]? = some (.cells (e35_ (rd_T35 l0 a1)) 35 (0, 0))) := ⟨blf_⟩
      have n2_ : Aside0 ((wc.setCell ⟨gb331, 2, none⟩ (.int .i64 (-1))).heap[gb337]? = some (.cells (e35_ (rd_T35 l0 t333)) 35 (0, 0))) := ⟨blf_⟩
      have n3_ : Aside0 (Below w.heap.size w (wc.setCell ⟨gb331, 2, none⟩ (.int .i64 (-1)))) := ⟨bel_⟩
      (try clear BK331)
      (try clear BK336)
      (try clear BK337)
      (try clear HB)
      generalize (wc.setCell ⟨gb331, 2, none⟩ (.int .i64 (-1))) = w86 at n0_ n1_ n2_ n3_ ⊢
      have BK331 := n0_
      have BK336 := n1_
      have BK337 := n2_
      have HB := n3_
      clear n0_ n1_ n2_ n3_
      replace BK331 := zM (zD BK331.out)
      replace BK336 := zM (zD BK336.out)
      replace BK337 := zM (zD BK337.out)
      replace HB := zM (below_drew1 HB.out)
      refine start_ (n := 13) (S := fun w' => True) (ds := []) #[F_, F_, F_, F_, F_, F_, F_, F_, F_, F_, F_, F_, F_] (by kernel_rfl) rfl rfl trivial (fun hHeld => ?_); refine with_tabW ropewaylaw21_PastSources.tab11 ropewaylaw21_PastSources.bits11 (fun HT_ HW_ => ?_)
      generalize w86.drew = w87 at BK331 BK336 BK337 HB hHeld ⊢
      refine pure_ (i := 0) (N := some 71) (v := ?_) (a' := ?_) #[T_, F_, F_, F_, F_, F_, F_, F_, F_, F_, F_, F_, F_] rfl rfl (any_of HT_.out (by kernel_rfl)) (fun _ _ _ h => h) (Or.inl ⟨by rfl, ?_⟩) ?_ ?_
      rotate_left
      · intro w'
        go_simp
        with_reducible rfl
      rotate_left
      · simp only [Act.put, zS, zZ, zC, i64_w, i32_w]
        rfl
      refine one_ (i := 1) (N := some 72) #[T_, T_, F_, F_, F_, F_, F_, F_, F_, F_, F_, F_, F_] rfl rfl (one_of HT_.out (by kernel_rfl)) (by decide) (fun K hK => ?_)
      refine goes_ Try.func8 (by kernel_rfl) rfl #[.slice (some ad334) l0.length c0] (by rfl) rfl rfl (by (try simp only [List.map_toArray, List.map_cons, List.map_nil]); first | done | rfl | (simp only [List.length_drop, List.length_take]; rfl)) ?_
      with_reducible refine (past_Fits.calls kj14 _ _ l0 false _ ?side1 ?side2 A62.out).mono ?_
      (case side1 => repeat (first | exact (Kd.C_below HR0.out HB.out) | (with_reducible refine Kd.C_alloc ?_ _) | (with_reducible refine Kd.C_drewN ?_ _) | (with_reducible refine Kd.C_drew ?_)))
      (case side2 => exact HC0.out)
      rintro e w88 ⟨rfl, hb⟩
      refine ⟨_, rfl, ?_⟩
      replace BK331 := zM (bb_ BK331 hb)
      replace BK336 := zM (bb_ BK336 hb)
      replace BK337 := zM (bb_ BK337 hb)
      replace HB := zM (zB bel_ hb)
      (try clear hb)
      (try clear hb2)
      (try clear hk)
      (try clear hi)
      refine hK.out _ _ trivial (fun hHeld => ?_)
      clear hK K
      refine norm_ (a' := ?_) ?_ ?_
      rotate_left
      · show Act.put _ (some 72) _ = _
        simp only [Act.put, zS, zZ, zC, i64_w, i32_w]
        rfl
      refine pure_ (i := 2) (N := some 73) (v := ?_) (a' := ?_) #[T_, T_, T_, F_, F_, F_, F_, F_, F_, F_, F_, F_, F_] rfl rfl (any_of HT_.out (by kernel_rfl)) (fun _ _ _ h => h) (Or.inl ⟨by rfl, ?_⟩) ?_ ?_
      rotate_left
      · intro w'
        go_simp
        with_reducible rfl
      rotate_left
      · simp only [Act.put, zS, zZ, zC, i64_w, i32_w]
        rfl
      refine pure_ (i := 3) (N := some 74) (v := ?_) (a' := ?_) #[T_, T_, T_, T_, F_, F_, F_, F_, F_, F_, F_, F_, F_] rfl rfl (any_of HT_.out (by kernel_rfl)) (fun _ _ _ h => h) (Or.inl ⟨by rfl, ?_⟩) ?_ ?_
      rotate_left
      · intro w'
        go_simp
        with_reducible rfl
      rotate_left
      · simp only [Act.put, zS, zZ, zC, i64_w, i32_w]
        rfl
      refine pure_ (i := 4) (N := some 75) (v := undef) (a' := ?_) #[T_, T_, T_, T_, T_, F_, F_, F_, F_, F_, F_, F_, F_] rfl rfl (any_of HT_.out (by kernel_rfl)) (fun _ _ _ h => h) (Or.inr ⟨by rfl, rfl⟩) ?_ ?_
      rotate_left
      · simp only [Act.put, zS, zZ, zC, i64_w, i32_w]
        rfl
      refine pure_ (i := 5) (N := some 76) (v := undef) (a' := ?_) #[T_, T_, T_, T_, T_, T_, F_, F_, F_, F_, F_, F_, F_] rfl rfl (any_of HT_.out (by kernel_rfl)) (fun _ _ _ h => h) (Or.inr ⟨by rfl, rfl⟩) ?_ ?_
      rotate_left
      · simp only [Act.put, zS, zZ, zC, i64_w, i32_w]
        rfl
      refine pure_ (i := 6) (N := some 77) (v := undef) (a' := ?_) #[T_, T_, T_, T_, T_, T_, T_, F_, F_, F_, F_, F_, F_] rfl rfl (any_of HT_.out (by kernel_rfl)) (fun _ _ _ h => h) (Or.inr ⟨by rfl, rfl⟩) ?_ ?_
      rotate_left
      · simp only [Act.put, zS, zZ, zC, i64_w, i32_w]
        rfl
      refine pure_ (i := 7) (N := some 78) (v := undef) (a' := ?_) #[T_, T_, T_, T_, T_, T_, T_, T_, F_, F_, F_, F_, F_] rfl rfl (any_of HT_.out (by kernel_rfl)) (fun _ _ _ h => h) (Or.inr ⟨by rfl, rfl⟩) ?_ ?_
      rotate_left
      · simp only [Act.put, zS, zZ, zC, i64_w, i32_w]
        rfl
      refine pure_ (i := 8) (N := some 79) (v := undef) (a' := ?_) #[T_, T_, T_, T_, T_, T_, T_, T_, T_, F_, F_, F_, F_] rfl rfl (any_of HT_.out (by kernel_rfl)) (fun _ _ _ h => h) (Or.inr ⟨by rfl, rfl⟩) ?_ ?_
      rotate_left
      · simp only [Act.put, zS, zZ, zC, i64_w, i32_w]
        rfl
      refine pure_ (i := 9) (N := some 80) (v := undef) (a' := ?_) #[T_, T_, T_, T_, T_, T_, T_, T_, T_, T_, F_, F_, F_] rfl rfl (any_of HT_.out (by kernel_rfl)) (fun _ _ _ h => h) (Or.inr ⟨by rfl, rfl⟩) ?_ ?_
      rotate_left
      · simp only [Act.put, zS, zZ, zC, i64_w, i32_w]
        rfl
      refine pure_ (i := 10) (N := some 81) (v := undef) (a' := ?_) #[T_, T_, T_, T_, T_, T_, T_, T_, T_, T_, T_, F_, F_] rfl rfl (any_of HT_.out (by kernel_rfl)) (fun _ _ _ h => h) (Or.inr ⟨by rfl, rfl⟩) ?_ ?_
      rotate_left
      · simp only [Act.put, zS, zZ, zC, i64_w, i32_w]
        rfl
      refine pure_ (i := 11) (N := some 82) (v := ?_) (a' := ?_) #[T_, T_, T_, T_, T_, T_, T_, T_, T_, T_, T_, T_, F_] rfl rfl (any_of HT_.out (by kernel_rfl)) (fun _ _ _ h => h) (Or.inl ⟨by rfl, ?_⟩) ?_ ?_
      rotate_left
      · intro w'
        go_simp
        with_reducible rfl
      rotate_left
      · simp only [Act.put, zS, zZ, zC, i64_w, i32_w]
        rfl
      refine pure_ (i := 12) (N := some 6) (v := ?_) (a' := ?_) #[T_, T_, T_, T_, T_, T_, T_, T_, T_, T_, T_, T_, T_] rfl rfl (any_of HT_.out (by kernel_rfl)) (fun _ _ _ h => h) (Or.inl ⟨by rfl, ?_⟩) ?_ ?_
      rotate_left
      · intro w'
        go_simp
        with_reducible rfl
      rotate_left
      · simp only [Act.put, zS, zZ, zC, i64_w, i32_w]
        rfl
      refine done_ (done_of HT_.out (by kernel_rfl)) ?_
      try go_wp2
      go_ret
      exact ⟨by first | rfl | (simp [errW_none, errW_some] <;> rfl) | (simp [*, errW_none, errW_some] <;> rfl), bel_⟩
    subst c63
    have H1 : ((some (([] : List (S35)) : List (S35))).bind fun y341 => (if y341.length + l0.length < 1172812402961 then ((some (y341 ++ l0 : List (S35))).bind fun y344 => ((some (([(⟨a2_0, a2_1, (-1), (⟨a2_3, a2_4, a2_5, (⟨a2_6, a2_7⟩ : S24)⟩ : S26), (⟨a2_8, (⟨a2_9, a2_10⟩ : S24), (⟨a2_11, (⟨a2_12, a2_13⟩ : S29), a2_14⟩ : S31)⟩ : S33)⟩ : S35)] : List (S35)) : List (S35))).bind fun y347 => (if y344.length + y347.length < 1172812402961 then ((past_Fits.f kj14 (y344 ++ y347)).bind fun t353 => (some t353)) else (none)))) else (none))) = some r := by rw [if_pos rfl] at H; exact H
    clear H
    have H := H1
    clear H1
    obtain ⟨y341, hy341⟩ : ∃ y_ : List (S35), y_ = (([] : List (S35))) := ⟨_, rfl⟩
    replace H : (if y341.length + l0.length < 1172812402961 then ((some (y341 ++ l0 : List (S35))).bind fun y344 => ((some (([(⟨a2_0, a2_1, (-1), (⟨a2_3, a2_4, a2_5, (⟨a2_6, a2_7⟩ : S24)⟩ : S26), (⟨a2_8, (⟨a2_9, a2_10⟩ : S24), (⟨a2_11, (⟨a2_12, a2_13⟩ : S29), a2_14⟩ : S31)⟩ : S33)⟩ : S35)] : List (S35)) : List (S35))).bind fun y347 => (if y344.length + y347.length < 1172812402961 then ((past_Fits.f kj14 (y344 ++ y347)).bind fun t353 => (some t353)) else (none)))) else (none)) = some r := by first | (rw [hy341]; with_reducible exact H) | (have H2_ := (Option.bind_some _ _).symm.trans H; rw [hy341]; with_reducible exact H2_) | (have H2_ := (Option.bind_some _ _).symm.trans H; with_reducible exact H2_) | with_reducible exact H | (rw [hy341]; exact H) | exact H
    have Ny341 := zM hy341
    clear hy341
    by_cases c64 : y341.length + l0.length < 1172812402961
    rotate_left
    · rw [if_neg c64] at H
      exact absurd H (by simp)
    rw [if_pos c64] at H
    have LMc64 := zM c64
    clear c64
    obtain ⟨y344, hy344⟩ : ∃ y_ : List (S35), y_ = (y341 ++ l0) := ⟨_, rfl⟩
    replace H : ((some (([(⟨a2_0, a2_1, (-1), (⟨a2_3, a2_4, a2_5, (⟨a2_6, a2_7⟩ : S24)⟩ : S26), (⟨a2_8, (⟨a2_9, a2_10⟩ : S24), (⟨a2_11, (⟨a2_12, a2_13⟩ : S29), a2_14⟩ : S31)⟩ : S33)⟩ : S35)] : List (S35)) : List (S35))).bind fun y347 => (if y344.length + y347.length < 1172812402961 then ((past_Fits.f kj14 (y344 ++ y347)).bind fun t353 => (some t353)) else (none))) = some r := by first | (rw [hy344]; with_reducible exact H) | (have H2_ := (Option.bind_some _ _).symm.trans H; rw [hy344]; with_reducible exact H2_) | (have H2_ := (Option.bind_some _ _).symm.trans H; with_reducible exact H2_) | with_reducible exact H | (rw [hy344]; exact H) | exact H
    have Ny344 := zM hy344
    clear hy344
    obtain ⟨y347, hy347⟩ : ∃ y_ : List (S35), y_ = (([(⟨a2_0, a2_1, (-1), (⟨a2_3, a2_4, a2_5, (⟨a2_6, a2_7⟩ : S24)⟩ : S26), (⟨a2_8, (⟨a2_9, a2_10⟩ : S24), (⟨a2_11, (⟨a2_12, a2_13⟩ : S29), a2_14⟩ : S31)⟩ : S33)⟩ : S35)] : List (S35))) := ⟨_, rfl⟩
    replace H : (if y344.length + y347.length < 1172812402961 then ((past_Fits.f kj14 (y344 ++ y347)).bind fun t353 => (some t353)) else (none)) = some r := by first | (rw [hy347]; with_reducible exact H) | (have H2_ := (Option.bind_some _ _).symm.trans H; rw [hy347]; with_reducible exact H2_) | (have H2_ := (Option.bind_some _ _).symm.trans H; with_reducible exact H2_) | with_reducible exact H | (rw [hy347]; exact H) | exact H
    have Ny347 := zM hy347
    clear hy347
    by_cases c65 : y344.length + y347.length < 1172812402961
    rotate_left
    · rw [if_neg c65] at H
      exact absurd H (by simp)
    rw [if_pos c65] at H
    have LMc65 := zM c65
    clear c65
    obtain ⟨y350, hy350⟩ : ∃ y_ : List (S35), y_ = (y344 ++ y347) := ⟨_, rfl⟩
    replace H : ((past_Fits.f kj14 y350).bind fun t353 => (some t353)) = some r := by first | (rw [hy350]; with_reducible exact H) | (have H2_ := (Option.bind_some _ _).symm.trans H; rw [hy350]; with_reducible exact H2_) | (have H2_ := (Option.bind_some _ _).symm.trans H; with_reducible exact H2_) | with_reducible exact H | (rw [hy350]; exact H) | exact H
    have Ny350 := zM hy350
    clear hy350
    replace H := Option.bind_eq_some_iff.mp H
    obtain ⟨t353, A660, H⟩ := H
    replace H : (some t353) = some r := H
    have A66 := zM A660
    clear A660
    obtain rfl := Option.some.inj H
    have hnb67 := NB331_336.out
    have hnc67 := NB336_331.out
    have hnb68 := NB331_337.out
    have hnc68 := NB337_331.out
    obtain ⟨hcz69_0, hcz69_1, hcz69_2, hcz69_3, hcz69_4, hcz69_5, hcz69_6, hcz69_7, hcz69_8, hcz69_9, hcz69_10, hcz69_11, hcz69_12, hcz69_13, hcz69_14⟩ := r15_ BK331.out
    obtain ⟨hfz69_0, hfz69_1, hfz69_2, hfz69_3, hfz69_4, hfz69_5, hfz69_6, hfz69_7, hfz69_8, hfz69_9, hfz69_10, hfz69_11, hfz69_12, hfz69_13, hfz69_14⟩ := f15_ BK331.out
    try go_wp2
    have n0_ : Aside0 ((wc.setCell ⟨gb331, 2, none⟩ (.int .i64 (-1))).heap[gb331]? = some (.cells #[.int .i64 a2_0, .int .i64 a2_1, .int .i64 (-1), .int .i64 a2_3, .int .i64 a2_4, .float .f64 a2_5, .int .i64 a2_6, .int .i64 a2_7, .int .i64 a2_8, .int .i64 a2_9, .int .i64 a2_10, .int .i64 a2_11, .int .i64 a2_12, .int .i64 a2_13, .float .f64 a2_14] 35 (0, 0))) := ⟨by (with_reducible repeat (first | refine zN ?_ _ | refine zD ?_ | refine zA ?_ _)); refine blk_put (cs := #[.int .i64 a2_0, .int .i64 a2_1, .int .i64 a2_2, .int .i64 a2_3, .int .i64 a2_4, .float .f64 a2_5, .int .i64 a2_6, .int .i64 a2_7, .int .i64 a2_8, .int .i64 a2_9, .int .i64 a2_10, .int .i64 a2_11, .int .i64 a2_12, .int .i64 a2_13, .float .f64 a2_14]) ?_ 2 _ rfl; (with_reducible repeat (first | refine zN ?_ _ | refine zD ?_ | refine zA ?_ _)); exact BK331.out⟩
    have n1_ : Aside0 ((wc.setCell ⟨gb331, 2, none⟩ (.int .i64 (-1))).heap[gb336]? = some (.cells (e35_ (rd_T35 l0 a1)) 35 (0, 0))) := ⟨blf_⟩
    have n2_ : Aside0 ((wc.setCell ⟨gb331, 2, none⟩ (.int .i64 (-1))).heap[gb337]? = some (.cells (e35_ (rd_T35 l0 t333)) 35 (0, 0))) := ⟨blf_⟩
    have n3_ : Aside0 (Below w.heap.size w (wc.setCell ⟨gb331, 2, none⟩ (.int .i64 (-1)))) := ⟨bel_⟩
    (try clear BK331)
    (try clear BK336)
    (try clear BK337)
    (try clear HB)
    generalize (wc.setCell ⟨gb331, 2, none⟩ (.int .i64 (-1))) = w70 at n0_ n1_ n2_ n3_ ⊢
    have BK331 := n0_
    have BK336 := n1_
    have BK337 := n2_
    have HB := n3_
    clear n0_ n1_ n2_ n3_
    replace BK331 := zM (zD BK331.out)
    replace BK336 := zM (zD BK336.out)
    replace BK337 := zM (zD BK337.out)
    replace HB := zM (below_drew1 HB.out)
    refine start_ (n := 13) (S := fun w' => w'.cell? ⟨gb331, 0, none⟩ = some (.int .i64 a2_0) ∧ w'.cell? ⟨gb331, 1, none⟩ = some (.int .i64 a2_1) ∧ w'.cell? ⟨gb331, 2, none⟩ = some (.int .i64 (-1)) ∧ w'.cell? ⟨gb331, 3, none⟩ = some (.int .i64 a2_3) ∧ w'.cell? ⟨gb331, 4, none⟩ = some (.int .i64 a2_4) ∧ w'.cell? ⟨gb331, 5, none⟩ = some (.float .f64 a2_5) ∧ w'.cell? ⟨gb331, 6, none⟩ = some (.int .i64 a2_6) ∧ w'.cell? ⟨gb331, 7, none⟩ = some (.int .i64 a2_7) ∧ w'.cell? ⟨gb331, 8, none⟩ = some (.int .i64 a2_8) ∧ w'.cell? ⟨gb331, 9, none⟩ = some (.int .i64 a2_9) ∧ w'.cell? ⟨gb331, 10, none⟩ = some (.int .i64 a2_10) ∧ w'.cell? ⟨gb331, 11, none⟩ = some (.int .i64 a2_11) ∧ w'.cell? ⟨gb331, 12, none⟩ = some (.int .i64 a2_12) ∧ w'.cell? ⟨gb331, 13, none⟩ = some (.int .i64 a2_13) ∧ w'.cell? ⟨gb331, 14, none⟩ = some (.float .f64 a2_14)) (ds := []) #[F_, F_, F_, F_, F_, F_, F_, F_, F_, F_, F_, F_, F_] (by kernel_rfl) rfl rfl ⟨(zL BK331.out 0).trans rfl, (zL BK331.out 1).trans rfl, (zL BK331.out 2).trans rfl, (zL BK331.out 3).trans rfl, (zL BK331.out 4).trans rfl, (zL BK331.out 5).trans rfl, (zL BK331.out 6).trans rfl, (zL BK331.out 7).trans rfl, (zL BK331.out 8).trans rfl, (zL BK331.out 9).trans rfl, (zL BK331.out 10).trans rfl, (zL BK331.out 11).trans rfl, (zL BK331.out 12).trans rfl, (zL BK331.out 13).trans rfl, (zL BK331.out 14).trans rfl⟩ (fun hHeld => ?_); refine with_tabW ropewaylaw21_PastSources.tab11 ropewaylaw21_PastSources.bits11 (fun HT_ HW_ => ?_)
    generalize w70.drew = w71 at BK331 BK336 BK337 HB hHeld ⊢
    refine pure_ (i := 0) (N := some 71) (v := ?_) (a' := ?_) #[T_, F_, F_, F_, F_, F_, F_, F_, F_, F_, F_, F_, F_] rfl rfl (any_of HT_.out (by kernel_rfl)) (fun _ _ _ h => h) (Or.inl ⟨by rfl, ?_⟩) ?_ ?_
    rotate_left
    · intro w'
      go_simp
      with_reducible rfl
    rotate_left
    · simp only [Act.put, zS, zZ, zC, i64_w, i32_w]
      rfl
    refine one_ (i := 1) (N := some 72) #[T_, T_, F_, F_, F_, F_, F_, F_, F_, F_, F_, F_, F_] rfl rfl (one_of HT_.out (by kernel_rfl)) (by decide) (fun K hK => ?_)
    refine goes_ Try.func8 (by kernel_rfl) rfl #[.slice (some ad334) l0.length c0] (by rfl) rfl rfl (by (try simp only [List.map_toArray, List.map_cons, List.map_nil]); first | done | rfl | (simp only [List.length_drop, List.length_take]; rfl)) ?_
    with_reducible refine (past_Fits.calls kj14 _ _ l0 true _ ?side1 ?side2 A62.out).mono ?_
    (case side1 => repeat (first | exact (Kd.C_below HR0.out HB.out) | (with_reducible refine Kd.C_alloc ?_ _) | (with_reducible refine Kd.C_drewN ?_ _) | (with_reducible refine Kd.C_drew ?_)))
    (case side2 => exact HC0.out)
    rintro e w72 ⟨rfl, hb⟩
    refine ⟨_, rfl, ?_⟩
    replace BK331 := zM (bb_ BK331 hb)
    replace BK336 := zM (bb_ BK336 hb)
    replace BK337 := zM (bb_ BK337 hb)
    replace HB := zM (zB bel_ hb)
    (try clear hb)
    (try clear hb2)
    (try clear hk)
    (try clear hi)
    refine hK.out _ _ ⟨(zL BK331.out 0).trans rfl, (zL BK331.out 1).trans rfl, (zL BK331.out 2).trans rfl, (zL BK331.out 3).trans rfl, (zL BK331.out 4).trans rfl, (zL BK331.out 5).trans rfl, (zL BK331.out 6).trans rfl, (zL BK331.out 7).trans rfl, (zL BK331.out 8).trans rfl, (zL BK331.out 9).trans rfl, (zL BK331.out 10).trans rfl, (zL BK331.out 11).trans rfl, (zL BK331.out 12).trans rfl, (zL BK331.out 13).trans rfl, (zL BK331.out 14).trans rfl⟩ (fun hHeld => ?_)
    clear hK K
    refine norm_ (a' := ?_) ?_ ?_
    rotate_left
    · show Act.put _ (some 72) _ = _
      simp only [Act.put, zS, zZ, zC, i64_w, i32_w]
      rfl
    refine pure_ (i := 2) (N := some 73) (v := ?_) (a' := ?_) #[T_, T_, T_, F_, F_, F_, F_, F_, F_, F_, F_, F_, F_] rfl rfl (any_of HT_.out (by kernel_rfl)) (fun _ _ _ h => h) (Or.inl ⟨by rfl, ?_⟩) ?_ ?_
    rotate_left
    · intro w'
      go_simp
      with_reducible rfl
    rotate_left
    · simp only [Act.put, zS, zZ, zC, i64_w, i32_w]
      rfl
    refine pure_ (i := 3) (N := some 74) (v := ?_) (a' := ?_) #[T_, T_, T_, T_, F_, F_, F_, F_, F_, F_, F_, F_, F_] rfl rfl (any_of HT_.out (by kernel_rfl)) (fun _ _ _ h => h) (Or.inl ⟨by rfl, ?_⟩) ?_ ?_
    rotate_left
    · intro w'
      go_simp
      with_reducible rfl
    rotate_left
    · simp only [Act.put, zS, zZ, zC, i64_w, i32_w]
      rfl
    refine pure_ (i := 5) (N := some 76) (v := ?_) (a' := ?_) #[T_, T_, T_, T_, F_, T_, F_, F_, F_, F_, F_, F_, F_] rfl rfl (any_of HT_.out (by kernel_rfl)) (fun _ _ _ h => h) (Or.inl ⟨by rfl, ?_⟩) ?_ ?_
    rotate_left
    · intro w'
      go_simp
      with_reducible rfl
    rotate_left
    · simp only [Act.put, zS, zZ, zC, i64_w, i32_w]
      rfl
    refine take_ (i := 7) (N := some 78) (v := ?_) (a' := ?_) #[T_, T_, T_, T_, F_, T_, F_, T_, F_, F_, F_, F_, F_] rfl rfl (take_ofW HT_.out HW_.out (by kernel_rfl)) (fun _ _ _ h => h) (Or.inl ⟨by rfl, ?_⟩) hHeld ?_ ?_
    rotate_left
    · rintro w' ⟨s0, s1, s2, s3, s4, s5, s6, s7, s8, s9, s10, s11, s12, s13, s14⟩
      go_simp
      with_reducible rfl
    rotate_left
    · simp only [Act.put, zS, zZ, zC, i64_w, i32_w]
      rfl
    refine join_ (σ := Value × Value × Value) 4 #[T_, T_, T_, T_, T_, T_, T_, T_, T_, F_, F_, F_, F_] (fun s_ => [(75, s_.1), (77, s_.2.1), (79, s_.2.2)]) (fun s_ w' => (w'.cell? ⟨gb331, 0, none⟩ = some (.int .i64 a2_0) ∧ w'.cell? ⟨gb331, 1, none⟩ = some (.int .i64 a2_1) ∧ w'.cell? ⟨gb331, 2, none⟩ = some (.int .i64 (-1)) ∧ w'.cell? ⟨gb331, 3, none⟩ = some (.int .i64 a2_3) ∧ w'.cell? ⟨gb331, 4, none⟩ = some (.int .i64 a2_4) ∧ w'.cell? ⟨gb331, 5, none⟩ = some (.float .f64 a2_5) ∧ w'.cell? ⟨gb331, 6, none⟩ = some (.int .i64 a2_6) ∧ w'.cell? ⟨gb331, 7, none⟩ = some (.int .i64 a2_7) ∧ w'.cell? ⟨gb331, 8, none⟩ = some (.int .i64 a2_8) ∧ w'.cell? ⟨gb331, 9, none⟩ = some (.int .i64 a2_9) ∧ w'.cell? ⟨gb331, 10, none⟩ = some (.int .i64 a2_10) ∧ w'.cell? ⟨gb331, 11, none⟩ = some (.int .i64 a2_11) ∧ w'.cell? ⟨gb331, 12, none⟩ = some (.int .i64 a2_12) ∧ w'.cell? ⟨gb331, 13, none⟩ = some (.int .i64 a2_13) ∧ w'.cell? ⟨gb331, 14, none⟩ = some (.float .f64 a2_14)) ∧ (Kd.R k35 35 w' w.heap.size (fun k_ => some k_ ≠ (s_.2.2 : Value).ownBlock ∧ k_ ≠ gb331 ∧ k_ ≠ gb336 ∧ k_ ≠ gb337) s_.2.1 y344) ∧ (Kd.R k35 35 w' w.heap.size (fun k_ => some k_ ≠ (s_.2.1 : Value).ownBlock ∧ k_ ≠ gb331 ∧ k_ ≠ gb336 ∧ k_ ≠ gb337) s_.2.2 y347) ∧ (w'.heap[gb331]? = some (.cells #[.int .i64 a2_0, .int .i64 a2_1, .int .i64 (-1), .int .i64 a2_3, .int .i64 a2_4, .float .f64 a2_5, .int .i64 a2_6, .int .i64 a2_7, .int .i64 a2_8, .int .i64 a2_9, .int .i64 a2_10, .int .i64 a2_11, .int .i64 a2_12, .int .i64 a2_13, .float .f64 a2_14] 35 (0, 0))) ∧ (w'.heap[gb336]? = some (.cells (e35_ (rd_T35 l0 a1)) 35 (0, 0))) ∧ (w'.heap[gb337]? = some (.cells (e35_ (rd_T35 l0 t333)) 35 (0, 0))) ∧ (Below w.heap.size w w')) ?_ ?_
    rotate_left
    · intro hCont
      refine two_ (i := 4) (j := 8) (Ni := some 75) (Nj := some 79) #[T_, T_, T_, T_, T_, T_, F_, T_, F_, F_, F_, F_, F_] #[T_, T_, T_, T_, F_, T_, F_, T_, T_, F_, F_, F_, F_] rfl rfl rfl rfl (two_of HT_.out (by kernel_rfl)) (by decide) (by decide) (fun K hK => ?_) (fun K hK => ?_)
      rotate_left
      · skip
        refine Kd.R_lit_step k35 _ 35 ?hg (N := 79) ?hd (xs := ([(⟨a2_0, a2_1, (-1), (⟨a2_3, a2_4, a2_5, (⟨a2_6, a2_7⟩ : S24)⟩ : S26), (⟨a2_8, (⟨a2_9, a2_10⟩ : S24), (⟨a2_11, (⟨a2_12, a2_13⟩ : S29), a2_14⟩ : S31)⟩ : S33)⟩ : S35)] : List (S35))) (inner := [.int .i64 a2_0, .int .i64 a2_1, .int .i64 (-1), .int .i64 a2_3, .int .i64 a2_4, .float .f64 a2_5, .int .i64 a2_6, .int .i64 a2_7, .int .i64 a2_8, .int .i64 a2_9, .int .i64 a2_10, .int .i64 a2_11, .int .i64 a2_12, .int .i64 a2_13, .float .f64 a2_14]) (ok := fun _ => True) (okp := fun _ => True) ?hr ?hp (fun _ hk => hk) trivial (Below.refl _ _) (Nat.le_refl _) (by simp) ?_; (case hd => rfl); (case hg => rfl); (case hr => first | (go_simp; done) | (go_simp; rfl)); (case hp => exact (Reps.front (show Kd.M k35 _ _ _ (⟨a2_0, a2_1, (-1), (⟨a2_3, a2_4, a2_5, (⟨a2_6, a2_7⟩ : S24)⟩ : S26), (⟨a2_8, (⟨a2_9, a2_10⟩ : S24), (⟨a2_11, (⟨a2_12, a2_13⟩ : S29), a2_14⟩ : S31)⟩ : S33)⟩ : S35) [.int .i64 a2_0, .int .i64 a2_1, .int .i64 (-1), .int .i64 a2_3, .int .i64 a2_4, .float .f64 a2_5, .int .i64 a2_6, .int .i64 a2_7, .int .i64 a2_8, .int .i64 a2_9, .int .i64 a2_10, .int .i64 a2_11, .int .i64 a2_12, .int .i64 a2_13, .float .f64 a2_14] from (k35_mkM _ _ _ (⟨a2_0, a2_1, (-1), (⟨a2_3, a2_4, a2_5, (⟨a2_6, a2_7⟩ : S24)⟩ : S26), (⟨a2_8, (⟨a2_9, a2_10⟩ : S24), (⟨a2_11, (⟨a2_12, a2_13⟩ : S29), a2_14⟩ : S31)⟩ : S33)⟩ : S35) )) rfl (Reps.none _ _) rfl))
        intro v348 w73 ho74 hb hg_ hnew_
        clear hg_ hnew_
        (first | rw [← Ny347.out] at ho74 | (simp only [Int.reduceToNat] at ho74; rw [← Ny347.out] at ho74))
        have HO349 := zM (Kd.R_lower (Kd.R_newB (Kd.R_newB (Kd.R_newB ho74 (g := gb331) (o := .cells #[.int .i64 a2_0, .int .i64 a2_1, .int .i64 (-1), .int .i64 a2_3, .int .i64 a2_4, .float .f64 a2_5, .int .i64 a2_6, .int .i64 a2_7, .int .i64 a2_8, .int .i64 a2_9, .int .i64 a2_10, .int .i64 a2_11, .int .i64 a2_12, .int .i64 a2_13, .float .f64 a2_14] 35 (0, 0)) blk_) (g := gb336) (o := .cells (e35_ (rd_T35 l0 a1)) 35 (0, 0)) blk_) (g := gb337) (o := .cells (e35_ (rd_T35 l0 t333)) 35 (0, 0)) blk_) (below_size bel_))
        replace BK331 := zM (bb_ BK331 hb)
        replace BK336 := zM (bb_ BK336 hb)
        replace BK337 := zM (bb_ BK337 hb)
        replace HB := zM (zB bel_ hb)
        clear hb ho74
        refine hK.out _ _ ⟨(zL BK331.out 0).trans rfl, (zL BK331.out 1).trans rfl, (zL BK331.out 2).trans rfl, (zL BK331.out 3).trans rfl, (zL BK331.out 4).trans rfl, (zL BK331.out 5).trans rfl, (zL BK331.out 6).trans rfl, (zL BK331.out 7).trans rfl, (zL BK331.out 8).trans rfl, (zL BK331.out 9).trans rfl, (zL BK331.out 10).trans rfl, (zL BK331.out 11).trans rfl, (zL BK331.out 12).trans rfl, (zL BK331.out 13).trans rfl, (zL BK331.out 14).trans rfl⟩ (fun hHeld => ?_)
        clear hK K
        refine norm_ (a' := ?_) ?_ ?_
        rotate_left
        · show Act.put _ (some 79) _ = _
          simp only [Act.put, zS, zZ, zC, i64_w, i32_w]
          rfl
        refine one_ (i := 4) (N := some 75) #[T_, T_, T_, T_, T_, T_, F_, T_, T_, F_, F_, F_, F_] rfl rfl (one_of HT_.out (by kernel_rfl)) (by decide) (fun K hK => ?_)
        refine Kd.R_lit_step k35 _ 35 ?hg (N := 75) ?hd (xs := ([] : List (S35))) (inner := []) (ok := fun _ => True) (okp := fun _ => True) ?hr ?hp (fun _ hk => hk) trivial (Below.refl _ _) (Nat.le_refl _) (by simp) ?_; (case hd => rfl); (case hg => rfl); (case hr => first | (go_simp; done) | (go_simp; rfl)); (case hp => exact (Reps.none _ _))
        intro v342 w75 ho76 hb hg_ hnew_
        clear hg_ hnew_
        (first | rw [← Ny341.out] at ho76 | (simp only [Int.reduceToNat] at ho76; rw [← Ny341.out] at ho76))
        have HO343 := zM (Kd.R_lower (Kd.R_newB (Kd.R_newB (Kd.R_newB (Kd.R_new' ho76 (Kd.R_lt (rl_ HO349))) (g := gb331) (o := .cells #[.int .i64 a2_0, .int .i64 a2_1, .int .i64 (-1), .int .i64 a2_3, .int .i64 a2_4, .float .f64 a2_5, .int .i64 a2_6, .int .i64 a2_7, .int .i64 a2_8, .int .i64 a2_9, .int .i64 a2_10, .int .i64 a2_11, .int .i64 a2_12, .int .i64 a2_13, .float .f64 a2_14] 35 (0, 0)) blk_) (g := gb336) (o := .cells (e35_ (rd_T35 l0 a1)) 35 (0, 0)) blk_) (g := gb337) (o := .cells (e35_ (rd_T35 l0 t333)) 35 (0, 0)) blk_) (below_size bel_))
        replace HO349 := zM (Kd.R_elder' (rl_ HO349) (Kd.R_base ho76) hb)
        replace BK331 := zM (bb_ BK331 hb)
        replace BK336 := zM (bb_ BK336 hb)
        replace BK337 := zM (bb_ BK337 hb)
        replace HB := zM (zB bel_ hb)
        clear hb ho76
        refine hK.out _ _ ⟨(zL BK331.out 0).trans rfl, (zL BK331.out 1).trans rfl, (zL BK331.out 2).trans rfl, (zL BK331.out 3).trans rfl, (zL BK331.out 4).trans rfl, (zL BK331.out 5).trans rfl, (zL BK331.out 6).trans rfl, (zL BK331.out 7).trans rfl, (zL BK331.out 8).trans rfl, (zL BK331.out 9).trans rfl, (zL BK331.out 10).trans rfl, (zL BK331.out 11).trans rfl, (zL BK331.out 12).trans rfl, (zL BK331.out 13).trans rfl, (zL BK331.out 14).trans rfl⟩ (fun hHeld => ?_)
        clear hK K
        refine norm_ (a' := ?_) ?_ ?_
        rotate_left
        · show Act.put _ (some 75) _ = _
          simp only [Act.put, zS, zZ, zC, i64_w, i32_w]
          rfl
        refine one_ (i := 6) (N := some 77) #[T_, T_, T_, T_, T_, T_, T_, T_, T_, F_, F_, F_, F_] rfl rfl (one_of HT_.out (by kernel_rfl)) (by decide) (fun K hK => ?_)
        refine Kd.R_append_rows_step k35 (w0 := w) w.heap.size (by rfl) (.tmp 75) (.tmp 76) 42 35 (.agg #[(.int .i64 0), (.int .i64 0), (.int .i64 0), (.int .i64 0), (.int .i64 0), (.float .f64 0), (.int .i64 0), (.int .i64 0), (.int .i64 0), (.int .i64 0), (.int .i64 0), (.int .i64 0), (.int .i64 0), (.int .i64 0), (.float .f64 0)]) 120 rfl Try.underlying42 info35 rfl (by decide) (by omega) v342 y341 l0 _ _ _ (fun k_ => some k_ ≠ (v348 : Value).ownBlock ∧ k_ ≠ gb331 ∧ k_ ≠ gb336 ∧ k_ ≠ gb337) (fun _ => False) rfl rfl ?aO ?aR (fun _ _ h => h) (fun _ h => h.elim) ?aF ?aB ?aS ?aL ?_
        (case aR => repeat (first | exact (Kd.C_below HR0.out HB.out) | (with_reducible refine Kd.C_alloc ?_ _) | (with_reducible refine Kd.C_drewN ?_ _) | (with_reducible refine Kd.C_drew ?_)))
        (case aB => exact bel_)
        (case aF => exact (fun k_ hk => ⟨Kd.fresh' (Kd.R_lt (rl_ HO349)) k_ hk, Kd.freshB (g := gb331) (o := .cells #[.int .i64 a2_0, .int .i64 a2_1, .int .i64 (-1), .int .i64 a2_3, .int .i64 a2_4, .float .f64 a2_5, .int .i64 a2_6, .int .i64 a2_7, .int .i64 a2_8, .int .i64 a2_9, .int .i64 a2_10, .int .i64 a2_11, .int .i64 a2_12, .int .i64 a2_13, .float .f64 a2_14] 35 (0, 0)) blk_ k_ hk, Kd.freshB (g := gb336) (o := .cells (e35_ (rd_T35 l0 a1)) 35 (0, 0)) blk_ k_ hk, Kd.freshB (g := gb337) (o := .cells (e35_ (rd_T35 l0 t333)) 35 (0, 0)) blk_ k_ hk⟩))
        (case aO => exact (by (with_reducible repeat (first | apply Kd.R_alloc | apply Kd.R_drewN | apply Kd.R_drew)); exact Kd.R_mono HO343.out (fun _ hk => ⟨hk.1.1.1.2, ⟨hk.1.1.2, ⟨hk.1.2, hk.2⟩⟩⟩)))
        (case aS => exact (below_size bel_))
        (case aL => have := LMc64.out; omega)
        intro v345 w77 ho hb hg hat
        rw [← Ny344.out] at ho
        have n0_ := zM (blk_grown (g := gb331) (o := .cells #[.int .i64 a2_0, .int .i64 a2_1, .int .i64 (-1), .int .i64 a2_3, .int .i64 a2_4, .float .f64 a2_5, .int .i64 a2_6, .int .i64 a2_7, .int .i64 a2_8, .int .i64 a2_9, .int .i64 a2_10, .int .i64 a2_11, .int .i64 a2_12, .int .i64 a2_13, .float .f64 a2_14] 35 (0, 0)) blk_ hg (Kd.R_away HO343.out (fun _ hk => hk.1.1.2)))
        have n1_ := zM (blk_grown (g := gb336) (o := .cells (e35_ (rd_T35 l0 a1)) 35 (0, 0)) blk_ hg (Kd.R_away HO343.out (fun _ hk => hk.1.2)))
        have n2_ := zM (blk_grown (g := gb337) (o := .cells (e35_ (rd_T35 l0 t333)) 35 (0, 0)) blk_ hg (Kd.R_away HO343.out (fun _ hk => hk.2)))
        have n3_ := zM (Kd.R_after (ok := (fun k_ => k_ ≠ gb331 ∧ k_ ≠ gb336 ∧ k_ ≠ gb337)) (by (with_reducible repeat (first | apply Kd.R_alloc | apply Kd.R_drewN | apply Kd.R_drew)); exact Kd.R_mono HO349.out (fun _ hk => ⟨⟨hk.1.1.1.2, ⟨hk.1.1.2, hk.1.2⟩⟩, hk.2⟩)) hg hat)
        have n4_ := zM (hb)
        have n5_ := zM (ho)
        clear BK331
        clear BK336
        clear BK337
        clear HO349
        clear HB
        clear HO343
        have BK331 := n0_
        have BK336 := n1_
        have BK337 := n2_
        have HO349 := n3_
        have HB := n4_
        have HO346 := n5_
        clear n0_ n1_ n2_ n3_ n4_ n5_
        clear ho hb hg hat
        refine hK.out _ _ ⟨(zL BK331.out 0).trans rfl, (zL BK331.out 1).trans rfl, (zL BK331.out 2).trans rfl, (zL BK331.out 3).trans rfl, (zL BK331.out 4).trans rfl, (zL BK331.out 5).trans rfl, (zL BK331.out 6).trans rfl, (zL BK331.out 7).trans rfl, (zL BK331.out 8).trans rfl, (zL BK331.out 9).trans rfl, (zL BK331.out 10).trans rfl, (zL BK331.out 11).trans rfl, (zL BK331.out 12).trans rfl, (zL BK331.out 13).trans rfl, (zL BK331.out 14).trans rfl⟩ (fun hHeld => ?_)
        clear hK K
        refine norm_ (a' := ?_) ?_ ?_
        rotate_left
        · show Act.put _ (some 77) _ = _
          simp only [Act.put, zS, zZ, zC, i64_w, i32_w]
          rfl
        exact norm_ (by simp only [putAll, Act.put, zS, zZ, zC]) (hCont (v342, v345, v348) _ ⟨hHeld, (rl_ HO346), (by (with_reducible repeat (first | apply Kd.R_alloc | apply Kd.R_drewN | apply Kd.R_drew)); exact Kd.R_mono HO349.out (fun _ hk => ⟨hk.2, ⟨hk.1.1, ⟨hk.1.2.1, hk.1.2.2⟩⟩⟩)), blk_, blk_, blk_, bel_⟩)
      skip
      refine Kd.R_lit_step k35 _ 35 ?hg (N := 75) ?hd (xs := ([] : List (S35))) (inner := []) (ok := fun _ => True) (okp := fun _ => True) ?hr ?hp (fun _ hk => hk) trivial (Below.refl _ _) (Nat.le_refl _) (by simp) ?_; (case hd => rfl); (case hg => rfl); (case hr => first | (go_simp; done) | (go_simp; rfl)); (case hp => exact (Reps.none _ _))
      intro v342 w73 ho74 hb hg_ hnew_
      clear hg_ hnew_
      (first | rw [← Ny341.out] at ho74 | (simp only [Int.reduceToNat] at ho74; rw [← Ny341.out] at ho74))
      have HO343 := zM (Kd.R_lower (Kd.R_newB (Kd.R_newB (Kd.R_newB ho74 (g := gb331) (o := .cells #[.int .i64 a2_0, .int .i64 a2_1, .int .i64 (-1), .int .i64 a2_3, .int .i64 a2_4, .float .f64 a2_5, .int .i64 a2_6, .int .i64 a2_7, .int .i64 a2_8, .int .i64 a2_9, .int .i64 a2_10, .int .i64 a2_11, .int .i64 a2_12, .int .i64 a2_13, .float .f64 a2_14] 35 (0, 0)) blk_) (g := gb336) (o := .cells (e35_ (rd_T35 l0 a1)) 35 (0, 0)) blk_) (g := gb337) (o := .cells (e35_ (rd_T35 l0 t333)) 35 (0, 0)) blk_) (below_size bel_))
      replace BK331 := zM (bb_ BK331 hb)
      replace BK336 := zM (bb_ BK336 hb)
      replace BK337 := zM (bb_ BK337 hb)
      replace HB := zM (zB bel_ hb)
      clear hb ho74
      refine hK.out _ _ ⟨(zL BK331.out 0).trans rfl, (zL BK331.out 1).trans rfl, (zL BK331.out 2).trans rfl, (zL BK331.out 3).trans rfl, (zL BK331.out 4).trans rfl, (zL BK331.out 5).trans rfl, (zL BK331.out 6).trans rfl, (zL BK331.out 7).trans rfl, (zL BK331.out 8).trans rfl, (zL BK331.out 9).trans rfl, (zL BK331.out 10).trans rfl, (zL BK331.out 11).trans rfl, (zL BK331.out 12).trans rfl, (zL BK331.out 13).trans rfl, (zL BK331.out 14).trans rfl⟩ (fun hHeld => ?_)
      clear hK K
      refine norm_ (a' := ?_) ?_ ?_
      rotate_left
      · show Act.put _ (some 75) _ = _
        simp only [Act.put, zS, zZ, zC, i64_w, i32_w]
        rfl
      refine two_ (i := 6) (j := 8) (Ni := some 77) (Nj := some 79) #[T_, T_, T_, T_, T_, T_, T_, T_, F_, F_, F_, F_, F_] #[T_, T_, T_, T_, T_, T_, F_, T_, T_, F_, F_, F_, F_] rfl rfl rfl rfl (two_of HT_.out (by kernel_rfl)) (by decide) (by decide) (fun K hK => ?_) (fun K hK => ?_)
      · skip
        refine Kd.R_append_rows_step k35 (w0 := w) w.heap.size (by rfl) (.tmp 75) (.tmp 76) 42 35 (.agg #[(.int .i64 0), (.int .i64 0), (.int .i64 0), (.int .i64 0), (.int .i64 0), (.float .f64 0), (.int .i64 0), (.int .i64 0), (.int .i64 0), (.int .i64 0), (.int .i64 0), (.int .i64 0), (.int .i64 0), (.int .i64 0), (.float .f64 0)]) 120 rfl Try.underlying42 info35 rfl (by decide) (by omega) v342 y341 l0 _ _ _ (fun k_ => k_ ≠ gb331 ∧ k_ ≠ gb336 ∧ k_ ≠ gb337) (fun _ => False) rfl rfl ?aO ?aR (fun _ _ h => h) (fun _ h => h.elim) ?aF ?aB ?aS ?aL ?_
        (case aR => repeat (first | exact (Kd.C_below HR0.out HB.out) | (with_reducible refine Kd.C_alloc ?_ _) | (with_reducible refine Kd.C_drewN ?_ _) | (with_reducible refine Kd.C_drew ?_)))
        (case aB => exact bel_)
        (case aF => exact (fun k_ hk => ⟨Kd.freshB (g := gb331) (o := .cells #[.int .i64 a2_0, .int .i64 a2_1, .int .i64 (-1), .int .i64 a2_3, .int .i64 a2_4, .float .f64 a2_5, .int .i64 a2_6, .int .i64 a2_7, .int .i64 a2_8, .int .i64 a2_9, .int .i64 a2_10, .int .i64 a2_11, .int .i64 a2_12, .int .i64 a2_13, .float .f64 a2_14] 35 (0, 0)) blk_ k_ hk, Kd.freshB (g := gb336) (o := .cells (e35_ (rd_T35 l0 a1)) 35 (0, 0)) blk_ k_ hk, Kd.freshB (g := gb337) (o := .cells (e35_ (rd_T35 l0 t333)) 35 (0, 0)) blk_ k_ hk⟩))
        (case aO => exact (by (with_reducible repeat (first | apply Kd.R_alloc | apply Kd.R_drewN | apply Kd.R_drew)); exact Kd.R_mono HO343.out (fun _ hk => ⟨hk.1.1.2, ⟨hk.1.2, hk.2⟩⟩)))
        (case aS => exact (below_size bel_))
        (case aL => have := LMc64.out; omega)
        intro v345 w75 ho hb hg hat
        rw [← Ny344.out] at ho
        have n0_ := zM (blk_grown (g := gb331) (o := .cells #[.int .i64 a2_0, .int .i64 a2_1, .int .i64 (-1), .int .i64 a2_3, .int .i64 a2_4, .float .f64 a2_5, .int .i64 a2_6, .int .i64 a2_7, .int .i64 a2_8, .int .i64 a2_9, .int .i64 a2_10, .int .i64 a2_11, .int .i64 a2_12, .int .i64 a2_13, .float .f64 a2_14] 35 (0, 0)) blk_ hg (Kd.R_away HO343.out (fun _ hk => hk.1.1.2)))
        have n1_ := zM (blk_grown (g := gb336) (o := .cells (e35_ (rd_T35 l0 a1)) 35 (0, 0)) blk_ hg (Kd.R_away HO343.out (fun _ hk => hk.1.2)))
        have n2_ := zM (blk_grown (g := gb337) (o := .cells (e35_ (rd_T35 l0 t333)) 35 (0, 0)) blk_ hg (Kd.R_away HO343.out (fun _ hk => hk.2)))
        have n3_ := zM (hb)
        have n4_ := zM (ho)
        clear BK331
        clear BK336
        clear BK337
        clear HB
        clear HO343
        have BK331 := n0_
        have BK336 := n1_
        have BK337 := n2_
        have HB := n3_
        have HO346 := n4_
        clear n0_ n1_ n2_ n3_ n4_
        clear ho hb hg hat
        refine hK.out _ _ ⟨(zL BK331.out 0).trans rfl, (zL BK331.out 1).trans rfl, (zL BK331.out 2).trans rfl, (zL BK331.out 3).trans rfl, (zL BK331.out 4).trans rfl, (zL BK331.out 5).trans rfl, (zL BK331.out 6).trans rfl, (zL BK331.out 7).trans rfl, (zL BK331.out 8).trans rfl, (zL BK331.out 9).trans rfl, (zL BK331.out 10).trans rfl, (zL BK331.out 11).trans rfl, (zL BK331.out 12).trans rfl, (zL BK331.out 13).trans rfl, (zL BK331.out 14).trans rfl⟩ (fun hHeld => ?_)
        clear hK K
        refine norm_ (a' := ?_) ?_ ?_
        rotate_left
        · show Act.put _ (some 77) _ = _
          simp only [Act.put, zS, zZ, zC, i64_w, i32_w]
          rfl
        refine one_ (i := 8) (N := some 79) #[T_, T_, T_, T_, T_, T_, T_, T_, T_, F_, F_, F_, F_] rfl rfl (one_of HT_.out (by kernel_rfl)) (by decide) (fun K hK => ?_)
        refine Kd.R_lit_step k35 _ 35 ?hg (N := 79) ?hd (xs := ([(⟨a2_0, a2_1, (-1), (⟨a2_3, a2_4, a2_5, (⟨a2_6, a2_7⟩ : S24)⟩ : S26), (⟨a2_8, (⟨a2_9, a2_10⟩ : S24), (⟨a2_11, (⟨a2_12, a2_13⟩ : S29), a2_14⟩ : S31)⟩ : S33)⟩ : S35)] : List (S35))) (inner := [.int .i64 a2_0, .int .i64 a2_1, .int .i64 (-1), .int .i64 a2_3, .int .i64 a2_4, .float .f64 a2_5, .int .i64 a2_6, .int .i64 a2_7, .int .i64 a2_8, .int .i64 a2_9, .int .i64 a2_10, .int .i64 a2_11, .int .i64 a2_12, .int .i64 a2_13, .float .f64 a2_14]) (ok := fun _ => True) (okp := fun _ => True) ?hr ?hp (fun _ hk => hk) trivial (Below.refl _ _) (Nat.le_refl _) (by simp) ?_; (case hd => rfl); (case hg => rfl); (case hr => first | (go_simp; done) | (go_simp; rfl)); (case hp => exact (Reps.front (show Kd.M k35 _ _ _ (⟨a2_0, a2_1, (-1), (⟨a2_3, a2_4, a2_5, (⟨a2_6, a2_7⟩ : S24)⟩ : S26), (⟨a2_8, (⟨a2_9, a2_10⟩ : S24), (⟨a2_11, (⟨a2_12, a2_13⟩ : S29), a2_14⟩ : S31)⟩ : S33)⟩ : S35) [.int .i64 a2_0, .int .i64 a2_1, .int .i64 (-1), .int .i64 a2_3, .int .i64 a2_4, .float .f64 a2_5, .int .i64 a2_6, .int .i64 a2_7, .int .i64 a2_8, .int .i64 a2_9, .int .i64 a2_10, .int .i64 a2_11, .int .i64 a2_12, .int .i64 a2_13, .float .f64 a2_14] from (k35_mkM _ _ _ (⟨a2_0, a2_1, (-1), (⟨a2_3, a2_4, a2_5, (⟨a2_6, a2_7⟩ : S24)⟩ : S26), (⟨a2_8, (⟨a2_9, a2_10⟩ : S24), (⟨a2_11, (⟨a2_12, a2_13⟩ : S29), a2_14⟩ : S31)⟩ : S33)⟩ : S35) )) rfl (Reps.none _ _) rfl))
        intro v348 w76 ho77 hb hg_ hnew_
        clear hg_ hnew_
        (first | rw [← Ny347.out] at ho77 | (simp only [Int.reduceToNat] at ho77; rw [← Ny347.out] at ho77))
        have HO349 := zM (Kd.R_lower (Kd.R_newB (Kd.R_newB (Kd.R_newB (Kd.R_new' ho77 (Kd.R_lt (rl_ HO346))) (g := gb331) (o := .cells #[.int .i64 a2_0, .int .i64 a2_1, .int .i64 (-1), .int .i64 a2_3, .int .i64 a2_4, .float .f64 a2_5, .int .i64 a2_6, .int .i64 a2_7, .int .i64 a2_8, .int .i64 a2_9, .int .i64 a2_10, .int .i64 a2_11, .int .i64 a2_12, .int .i64 a2_13, .float .f64 a2_14] 35 (0, 0)) blk_) (g := gb336) (o := .cells (e35_ (rd_T35 l0 a1)) 35 (0, 0)) blk_) (g := gb337) (o := .cells (e35_ (rd_T35 l0 t333)) 35 (0, 0)) blk_) (below_size bel_))
        replace HO346 := zM (Kd.R_elder' (rl_ HO346) (Kd.R_base ho77) hb)
        replace BK331 := zM (bb_ BK331 hb)
        replace BK336 := zM (bb_ BK336 hb)
        replace BK337 := zM (bb_ BK337 hb)
        replace HB := zM (zB bel_ hb)
        clear hb ho77
        refine hK.out _ _ ⟨(zL BK331.out 0).trans rfl, (zL BK331.out 1).trans rfl, (zL BK331.out 2).trans rfl, (zL BK331.out 3).trans rfl, (zL BK331.out 4).trans rfl, (zL BK331.out 5).trans rfl, (zL BK331.out 6).trans rfl, (zL BK331.out 7).trans rfl, (zL BK331.out 8).trans rfl, (zL BK331.out 9).trans rfl, (zL BK331.out 10).trans rfl, (zL BK331.out 11).trans rfl, (zL BK331.out 12).trans rfl, (zL BK331.out 13).trans rfl, (zL BK331.out 14).trans rfl⟩ (fun hHeld => ?_)
        clear hK K
        refine norm_ (a' := ?_) ?_ ?_
        rotate_left
        · show Act.put _ (some 79) _ = _
          simp only [Act.put, zS, zZ, zC, i64_w, i32_w]
          rfl
        exact norm_ (by simp only [putAll, Act.put, zS, zZ, zC]) (hCont (v342, v345, v348) _ ⟨hHeld, (by (with_reducible repeat (first | apply Kd.R_alloc | apply Kd.R_drewN | apply Kd.R_drew)); exact Kd.R_mono HO346.out (fun _ hk => ⟨hk.2, ⟨hk.1.1, ⟨hk.1.2.1, hk.1.2.2⟩⟩⟩)), (by (with_reducible repeat (first | apply Kd.R_alloc | apply Kd.R_drewN | apply Kd.R_drew)); exact Kd.R_mono HO349.out (fun _ hk => ⟨hk.1.1.1.2, ⟨hk.1.1.2, ⟨hk.1.2, hk.2⟩⟩⟩)), blk_, blk_, blk_, bel_⟩)
      skip
      refine Kd.R_lit_step k35 _ 35 ?hg (N := 79) ?hd (xs := ([(⟨a2_0, a2_1, (-1), (⟨a2_3, a2_4, a2_5, (⟨a2_6, a2_7⟩ : S24)⟩ : S26), (⟨a2_8, (⟨a2_9, a2_10⟩ : S24), (⟨a2_11, (⟨a2_12, a2_13⟩ : S29), a2_14⟩ : S31)⟩ : S33)⟩ : S35)] : List (S35))) (inner := [.int .i64 a2_0, .int .i64 a2_1, .int .i64 (-1), .int .i64 a2_3, .int .i64 a2_4, .float .f64 a2_5, .int .i64 a2_6, .int .i64 a2_7, .int .i64 a2_8, .int .i64 a2_9, .int .i64 a2_10, .int .i64 a2_11, .int .i64 a2_12, .int .i64 a2_13, .float .f64 a2_14]) (ok := fun _ => True) (okp := fun _ => True) ?hr ?hp (fun _ hk => hk) trivial (Below.refl _ _) (Nat.le_refl _) (by simp) ?_; (case hd => rfl); (case hg => rfl); (case hr => first | (go_simp; done) | (go_simp; rfl)); (case hp => exact (Reps.front (show Kd.M k35 _ _ _ (⟨a2_0, a2_1, (-1), (⟨a2_3, a2_4, a2_5, (⟨a2_6, a2_7⟩ : S24)⟩ : S26), (⟨a2_8, (⟨a2_9, a2_10⟩ : S24), (⟨a2_11, (⟨a2_12, a2_13⟩ : S29), a2_14⟩ : S31)⟩ : S33)⟩ : S35) [.int .i64 a2_0, .int .i64 a2_1, .int .i64 (-1), .int .i64 a2_3, .int .i64 a2_4, .float .f64 a2_5, .int .i64 a2_6, .int .i64 a2_7, .int .i64 a2_8, .int .i64 a2_9, .int .i64 a2_10, .int .i64 a2_11, .int .i64 a2_12, .int .i64 a2_13, .float .f64 a2_14] from (k35_mkM _ _ _ (⟨a2_0, a2_1, (-1), (⟨a2_3, a2_4, a2_5, (⟨a2_6, a2_7⟩ : S24)⟩ : S26), (⟨a2_8, (⟨a2_9, a2_10⟩ : S24), (⟨a2_11, (⟨a2_12, a2_13⟩ : S29), a2_14⟩ : S31)⟩ : S33)⟩ : S35) )) rfl (Reps.none _ _) rfl))
      intro v348 w75 ho76 hb hg_ hnew_
      clear hg_ hnew_
      (first | rw [← Ny347.out] at ho76 | (simp only [Int.reduceToNat] at ho76; rw [← Ny347.out] at ho76))
      have HO349 := zM (Kd.R_lower (Kd.R_newB (Kd.R_newB (Kd.R_newB (Kd.R_new' ho76 (Kd.R_lt (rl_ HO343))) (g := gb331) (o := .cells #[.int .i64 a2_0, .int .i64 a2_1, .int .i64 (-1), .int .i64 a2_3, .int .i64 a2_4, .float .f64 a2_5, .int .i64 a2_6, .int .i64 a2_7, .int .i64 a2_8, .int .i64 a2_9, .int .i64 a2_10, .int .i64 a2_11, .int .i64 a2_12, .int .i64 a2_13, .float .f64 a2_14] 35 (0, 0)) blk_) (g := gb336) (o := .cells (e35_ (rd_T35 l0 a1)) 35 (0, 0)) blk_) (g := gb337) (o := .cells (e35_ (rd_T35 l0 t333)) 35 (0, 0)) blk_) (below_size bel_))
      replace HO343 := zM (Kd.R_elder' (rl_ HO343) (Kd.R_base ho76) hb)
      replace BK331 := zM (bb_ BK331 hb)
      replace BK336 := zM (bb_ BK336 hb)
      replace BK337 := zM (bb_ BK337 hb)
      replace HB := zM (zB bel_ hb)
      clear hb ho76
      refine hK.out _ _ ⟨(zL BK331.out 0).trans rfl, (zL BK331.out 1).trans rfl, (zL BK331.out 2).trans rfl, (zL BK331.out 3).trans rfl, (zL BK331.out 4).trans rfl, (zL BK331.out 5).trans rfl, (zL BK331.out 6).trans rfl, (zL BK331.out 7).trans rfl, (zL BK331.out 8).trans rfl, (zL BK331.out 9).trans rfl, (zL BK331.out 10).trans rfl, (zL BK331.out 11).trans rfl, (zL BK331.out 12).trans rfl, (zL BK331.out 13).trans rfl, (zL BK331.out 14).trans rfl⟩ (fun hHeld => ?_)
      clear hK K
      refine norm_ (a' := ?_) ?_ ?_
      rotate_left
      · show Act.put _ (some 79) _ = _
        simp only [Act.put, zS, zZ, zC, i64_w, i32_w]
        rfl
      refine one_ (i := 6) (N := some 77) #[T_, T_, T_, T_, T_, T_, T_, T_, T_, F_, F_, F_, F_] rfl rfl (one_of HT_.out (by kernel_rfl)) (by decide) (fun K hK => ?_)
      refine Kd.R_append_rows_step k35 (w0 := w) w.heap.size (by rfl) (.tmp 75) (.tmp 76) 42 35 (.agg #[(.int .i64 0), (.int .i64 0), (.int .i64 0), (.int .i64 0), (.int .i64 0), (.float .f64 0), (.int .i64 0), (.int .i64 0), (.int .i64 0), (.int .i64 0), (.int .i64 0), (.int .i64 0), (.int .i64 0), (.int .i64 0), (.float .f64 0)]) 120 rfl Try.underlying42 info35 rfl (by decide) (by omega) v342 y341 l0 _ _ _ (fun k_ => some k_ ≠ (v348 : Value).ownBlock ∧ k_ ≠ gb331 ∧ k_ ≠ gb336 ∧ k_ ≠ gb337) (fun _ => False) rfl rfl ?aO ?aR (fun _ _ h => h) (fun _ h => h.elim) ?aF ?aB ?aS ?aL ?_
      (case aR => repeat (first | exact (Kd.C_below HR0.out HB.out) | (with_reducible refine Kd.C_alloc ?_ _) | (with_reducible refine Kd.C_drewN ?_ _) | (with_reducible refine Kd.C_drew ?_)))
      (case aB => exact bel_)
      (case aF => exact (fun k_ hk => ⟨Kd.fresh' (Kd.R_lt (rl_ HO349)) k_ hk, Kd.freshB (g := gb331) (o := .cells #[.int .i64 a2_0, .int .i64 a2_1, .int .i64 (-1), .int .i64 a2_3, .int .i64 a2_4, .float .f64 a2_5, .int .i64 a2_6, .int .i64 a2_7, .int .i64 a2_8, .int .i64 a2_9, .int .i64 a2_10, .int .i64 a2_11, .int .i64 a2_12, .int .i64 a2_13, .float .f64 a2_14] 35 (0, 0)) blk_ k_ hk, Kd.freshB (g := gb336) (o := .cells (e35_ (rd_T35 l0 a1)) 35 (0, 0)) blk_ k_ hk, Kd.freshB (g := gb337) (o := .cells (e35_ (rd_T35 l0 t333)) 35 (0, 0)) blk_ k_ hk⟩))
      (case aO => exact (by (with_reducible repeat (first | apply Kd.R_alloc | apply Kd.R_drewN | apply Kd.R_drew)); exact Kd.R_mono HO343.out (fun _ hk => ⟨hk.2, ⟨hk.1.1.1.2, ⟨hk.1.1.2, hk.1.2⟩⟩⟩)))
      (case aS => exact (below_size bel_))
      (case aL => have := LMc64.out; omega)
      intro v345 w77 ho hb hg hat
      rw [← Ny344.out] at ho
      have n0_ := zM (blk_grown (g := gb331) (o := .cells #[.int .i64 a2_0, .int .i64 a2_1, .int .i64 (-1), .int .i64 a2_3, .int .i64 a2_4, .float .f64 a2_5, .int .i64 a2_6, .int .i64 a2_7, .int .i64 a2_8, .int .i64 a2_9, .int .i64 a2_10, .int .i64 a2_11, .int .i64 a2_12, .int .i64 a2_13, .float .f64 a2_14] 35 (0, 0)) blk_ hg (Kd.R_away HO343.out (fun _ hk => hk.1.1.1.2)))
      have n1_ := zM (blk_grown (g := gb336) (o := .cells (e35_ (rd_T35 l0 a1)) 35 (0, 0)) blk_ hg (Kd.R_away HO343.out (fun _ hk => hk.1.1.2)))
      have n2_ := zM (blk_grown (g := gb337) (o := .cells (e35_ (rd_T35 l0 t333)) 35 (0, 0)) blk_ hg (Kd.R_away HO343.out (fun _ hk => hk.1.2)))
      have n3_ := zM (Kd.R_after (ok := (fun k_ => k_ ≠ gb331 ∧ k_ ≠ gb336 ∧ k_ ≠ gb337)) (by (with_reducible repeat (first | apply Kd.R_alloc | apply Kd.R_drewN | apply Kd.R_drew)); exact Kd.R_mono HO349.out (fun _ hk => ⟨⟨hk.1.1.2, ⟨hk.1.2, hk.2⟩⟩, hk.1.1.1.2⟩)) hg hat)
      have n4_ := zM (hb)
      have n5_ := zM (ho)
      clear BK331
      clear BK336
      clear BK337
      clear HO349
      clear HB
      clear HO343
      have BK331 := n0_
      have BK336 := n1_
      have BK337 := n2_
      have HO349 := n3_
      have HB := n4_
      have HO346 := n5_
      clear n0_ n1_ n2_ n3_ n4_ n5_
      clear ho hb hg hat
      refine hK.out _ _ ⟨(zL BK331.out 0).trans rfl, (zL BK331.out 1).trans rfl, (zL BK331.out 2).trans rfl, (zL BK331.out 3).trans rfl, (zL BK331.out 4).trans rfl, (zL BK331.out 5).trans rfl, (zL BK331.out 6).trans rfl, (zL BK331.out 7).trans rfl, (zL BK331.out 8).trans rfl, (zL BK331.out 9).trans rfl, (zL BK331.out 10).trans rfl, (zL BK331.out 11).trans rfl, (zL BK331.out 12).trans rfl, (zL BK331.out 13).trans rfl, (zL BK331.out 14).trans rfl⟩ (fun hHeld => ?_)
      clear hK K
      refine norm_ (a' := ?_) ?_ ?_
      rotate_left
      · show Act.put _ (some 77) _ = _
        simp only [Act.put, zS, zZ, zC, i64_w, i32_w]
        rfl
      exact norm_ (by simp only [putAll, Act.put, zS, zZ, zC]) (hCont (v342, v345, v348) _ ⟨hHeld, (rl_ HO346), (by (with_reducible repeat (first | apply Kd.R_alloc | apply Kd.R_drewN | apply Kd.R_drew)); exact Kd.R_mono HO349.out (fun _ hk => ⟨hk.2, ⟨hk.1.1, ⟨hk.1.2.1, hk.1.2.2⟩⟩⟩)), blk_, blk_, blk_, bel_⟩)
    rintro ⟨v342, v345, v348⟩ w78 ⟨hS_, h0_, h1_, h2_, h3_, h4_, h5_⟩
    have HO346 : Aside0 (Kd.R k35 35 w78 w.heap.size (fun k_ => some k_ ≠ (v348 : Value).ownBlock ∧ k_ ≠ gb331 ∧ k_ ≠ gb336 ∧ k_ ≠ gb337) v345 y344) := ⟨h0_⟩
    have HO349 : Aside0 (Kd.R k35 35 w78 w.heap.size (fun k_ => some k_ ≠ (v345 : Value).ownBlock ∧ k_ ≠ gb331 ∧ k_ ≠ gb336 ∧ k_ ≠ gb337) v348 y347) := ⟨h1_⟩
    replace BK331 : Aside0 (w78.heap[gb331]? = some (.cells #[.int .i64 a2_0, .int .i64 a2_1, .int .i64 (-1), .int .i64 a2_3, .int .i64 a2_4, .float .f64 a2_5, .int .i64 a2_6, .int .i64 a2_7, .int .i64 a2_8, .int .i64 a2_9, .int .i64 a2_10, .int .i64 a2_11, .int .i64 a2_12, .int .i64 a2_13, .float .f64 a2_14] 35 (0, 0))) := ⟨h2_⟩
    replace BK336 : Aside0 (w78.heap[gb336]? = some (.cells (e35_ (rd_T35 l0 a1)) 35 (0, 0))) := ⟨h3_⟩
    replace BK337 : Aside0 (w78.heap[gb337]? = some (.cells (e35_ (rd_T35 l0 t333)) 35 (0, 0))) := ⟨h4_⟩
    replace HB : Aside0 (Below w.heap.size w w78) := ⟨h5_⟩
    clear h0_ h1_ h2_ h3_ h4_ h5_
    have hHeld : w78.cell? ⟨gb331, 0, none⟩ = some (.int .i64 a2_0) ∧ w78.cell? ⟨gb331, 1, none⟩ = some (.int .i64 a2_1) ∧ w78.cell? ⟨gb331, 2, none⟩ = some (.int .i64 (-1)) ∧ w78.cell? ⟨gb331, 3, none⟩ = some (.int .i64 a2_3) ∧ w78.cell? ⟨gb331, 4, none⟩ = some (.int .i64 a2_4) ∧ w78.cell? ⟨gb331, 5, none⟩ = some (.float .f64 a2_5) ∧ w78.cell? ⟨gb331, 6, none⟩ = some (.int .i64 a2_6) ∧ w78.cell? ⟨gb331, 7, none⟩ = some (.int .i64 a2_7) ∧ w78.cell? ⟨gb331, 8, none⟩ = some (.int .i64 a2_8) ∧ w78.cell? ⟨gb331, 9, none⟩ = some (.int .i64 a2_9) ∧ w78.cell? ⟨gb331, 10, none⟩ = some (.int .i64 a2_10) ∧ w78.cell? ⟨gb331, 11, none⟩ = some (.int .i64 a2_11) ∧ w78.cell? ⟨gb331, 12, none⟩ = some (.int .i64 a2_12) ∧ w78.cell? ⟨gb331, 13, none⟩ = some (.int .i64 a2_13) ∧ w78.cell? ⟨gb331, 14, none⟩ = some (.float .f64 a2_14) := hS_
    obtain ⟨Ao80, co80, eo80⟩ := Kd.R_slice HO349.out
    (first | subst eo80 | (injection eo80 with f1_ f2_ f3_; have f4_ := f1_.symm; have f5_ := f3_.symm; clear f1_ f2_ f3_; subst f4_; subst f5_))
    refine norm_ (a' := ?_) ?_ ?_
    rotate_left
    · simp only [putAll, Act.put, zS, zZ, zC]
      rfl
    refine one_ (i := 9) (N := some 80) #[T_, T_, T_, T_, T_, T_, T_, T_, T_, T_, F_, F_, F_] rfl rfl (one_of HT_.out (by kernel_rfl)) (by decide) (fun K hK => ?_)
    refine Kd.R_append_rows_step k35 (w0 := w) w.heap.size (by rfl) (.tmp 77) (.tmp 79) 42 35 (.agg #[(.int .i64 0), (.int .i64 0), (.int .i64 0), (.int .i64 0), (.int .i64 0), (.float .f64 0), (.int .i64 0), (.int .i64 0), (.int .i64 0), (.int .i64 0), (.int .i64 0), (.int .i64 0), (.int .i64 0), (.int .i64 0), (.float .f64 0)]) 120 rfl Try.underlying42 info35 rfl (by decide) (by omega) v345 y344 y347 _ _ _ (fun k_ => some k_ ≠ (.slice Ao80 y347.length co80 : Value).ownBlock ∧ k_ ≠ gb331 ∧ k_ ≠ gb336 ∧ k_ ≠ gb337) (fun _ => False) rfl rfl ?aO ?aR (fun _ _ h => h) (fun _ h => h.elim) ?aF ?aB ?aS ?aL ?_
    (case aR => repeat (first | exact (Kd.R_reads' HO349.out).2.2 | (with_reducible refine Kd.C_alloc ?_ _) | (with_reducible refine Kd.C_drewN ?_ _) | (with_reducible refine Kd.C_drew ?_)))
    (case aB => exact bel_)
    (case aF => exact (fun k_ hk => ⟨Kd.fresh' (Kd.R_lt (rl_ HO349)) k_ hk, Kd.freshB (g := gb331) (o := .cells #[.int .i64 a2_0, .int .i64 a2_1, .int .i64 (-1), .int .i64 a2_3, .int .i64 a2_4, .float .f64 a2_5, .int .i64 a2_6, .int .i64 a2_7, .int .i64 a2_8, .int .i64 a2_9, .int .i64 a2_10, .int .i64 a2_11, .int .i64 a2_12, .int .i64 a2_13, .float .f64 a2_14] 35 (0, 0)) blk_ k_ hk, Kd.freshB (g := gb336) (o := .cells (e35_ (rd_T35 l0 a1)) 35 (0, 0)) blk_ k_ hk, Kd.freshB (g := gb337) (o := .cells (e35_ (rd_T35 l0 t333)) 35 (0, 0)) blk_ k_ hk⟩))
    (case aO => exact (rl_ HO346))
    (case aS => exact (below_size bel_))
    (case aL => have := LMc65.out; omega)
    intro v351 w79 ho hb hg hat
    rw [← Ny350.out] at ho
    have n0_ := zM (blk_grown (g := gb331) (o := .cells #[.int .i64 a2_0, .int .i64 a2_1, .int .i64 (-1), .int .i64 a2_3, .int .i64 a2_4, .float .f64 a2_5, .int .i64 a2_6, .int .i64 a2_7, .int .i64 a2_8, .int .i64 a2_9, .int .i64 a2_10, .int .i64 a2_11, .int .i64 a2_12, .int .i64 a2_13, .float .f64 a2_14] 35 (0, 0)) blk_ hg (Kd.R_away HO346.out (fun _ hk => hk.2.1)))
    have n1_ := zM (blk_grown (g := gb336) (o := .cells (e35_ (rd_T35 l0 a1)) 35 (0, 0)) blk_ hg (Kd.R_away HO346.out (fun _ hk => hk.2.2.1)))
    have n2_ := zM (blk_grown (g := gb337) (o := .cells (e35_ (rd_T35 l0 t333)) 35 (0, 0)) blk_ hg (Kd.R_away HO346.out (fun _ hk => hk.2.2.2)))
    have n3_ := zM (Kd.R_after (ok := (fun k_ => k_ ≠ gb331 ∧ k_ ≠ gb336 ∧ k_ ≠ gb337)) (by (with_reducible repeat (first | apply Kd.R_alloc | apply Kd.R_drewN | apply Kd.R_drew)); exact Kd.R_mono HO349.out (fun _ hk => ⟨⟨hk.2.1, ⟨hk.2.2.1, hk.2.2.2⟩⟩, hk.1⟩)) hg hat)
    have n4_ := zM (hb)
    have n5_ := zM (ho)
    clear BK331
    clear BK336
    clear BK337
    clear HO349
    clear HB
    clear HO346
    have BK331 := n0_
    have BK336 := n1_
    have BK337 := n2_
    have HO349 := n3_
    have HB := n4_
    have HO352 := n5_
    clear n0_ n1_ n2_ n3_ n4_ n5_
    clear ho hb hg hat
    obtain ⟨Ao81, co81, eo81⟩ := Kd.R_slice HO352.out
    (first | subst eo81 | (injection eo81 with f1_ f2_ f3_; have f4_ := f1_.symm; have f5_ := f3_.symm; clear f1_ f2_ f3_; subst f4_; subst f5_))
    refine hK.out _ _ ⟨(zL BK331.out 0).trans rfl, (zL BK331.out 1).trans rfl, (zL BK331.out 2).trans rfl, (zL BK331.out 3).trans rfl, (zL BK331.out 4).trans rfl, (zL BK331.out 5).trans rfl, (zL BK331.out 6).trans rfl, (zL BK331.out 7).trans rfl, (zL BK331.out 8).trans rfl, (zL BK331.out 9).trans rfl, (zL BK331.out 10).trans rfl, (zL BK331.out 11).trans rfl, (zL BK331.out 12).trans rfl, (zL BK331.out 13).trans rfl, (zL BK331.out 14).trans rfl⟩ (fun hHeld => ?_)
    clear hK K
    refine norm_ (a' := ?_) ?_ ?_
    rotate_left
    · show Act.put _ (some 80) _ = _
      simp only [Act.put, zS, zZ, zC, i64_w, i32_w]
      rfl
    refine one_ (i := 10) (N := some 81) #[T_, T_, T_, T_, T_, T_, T_, T_, T_, T_, T_, F_, F_] rfl rfl (one_of HT_.out (by kernel_rfl)) (by decide) (fun K hK => ?_)
    refine goes_ Try.func8 (by kernel_rfl) rfl #[.slice Ao81 y350.length co81] (by rfl) rfl rfl (by (try simp only [List.map_toArray, List.map_cons, List.map_nil]); first | done | rfl | (simp only [List.length_drop, List.length_take]; rfl)) ?_
    with_reducible refine (past_Fits.calls kj14 _ _ y350 t353 _ ?side1 ?side2 A66.out).mono ?_
    (case side1 => repeat (first | exact (Kd.R_reads' HO352.out).2.2 | (with_reducible refine Kd.C_alloc ?_ _) | (with_reducible refine Kd.C_drewN ?_ _) | (with_reducible refine Kd.C_drew ?_)))
    (case side2 => exact (Kd.R_reads' HO352.out).2.1)
    rintro e w82 ⟨rfl, hb⟩
    refine ⟨_, rfl, ?_⟩
    replace HO349 := zM (Kd.R_below (rl_ HO349) hb)
    replace HO352 := zM (Kd.R_below (rl_ HO352) hb)
    replace BK331 := zM (bb_ BK331 hb)
    replace BK336 := zM (bb_ BK336 hb)
    replace BK337 := zM (bb_ BK337 hb)
    replace HB := zM (zB bel_ hb)
    (try clear hb)
    (try clear hb2)
    (try clear hk)
    (try clear hi)
    refine hK.out _ _ ⟨(zL BK331.out 0).trans rfl, (zL BK331.out 1).trans rfl, (zL BK331.out 2).trans rfl, (zL BK331.out 3).trans rfl, (zL BK331.out 4).trans rfl, (zL BK331.out 5).trans rfl, (zL BK331.out 6).trans rfl, (zL BK331.out 7).trans rfl, (zL BK331.out 8).trans rfl, (zL BK331.out 9).trans rfl, (zL BK331.out 10).trans rfl, (zL BK331.out 11).trans rfl, (zL BK331.out 12).trans rfl, (zL BK331.out 13).trans rfl, (zL BK331.out 14).trans rfl⟩ (fun hHeld => ?_)
    clear hK K
    refine norm_ (a' := ?_) ?_ ?_
    rotate_left
    · show Act.put _ (some 81) _ = _
      simp only [Act.put, zS, zZ, zC, i64_w, i32_w]
      rfl
    refine pure_ (i := 11) (N := some 82) (v := ?_) (a' := ?_) #[T_, T_, T_, T_, T_, T_, T_, T_, T_, T_, T_, T_, F_] rfl rfl (any_of HT_.out (by kernel_rfl)) (fun _ _ _ h => h) (Or.inl ⟨by rfl, ?_⟩) ?_ ?_
    rotate_left
    · intro w'
      go_simp
      with_reducible rfl
    rotate_left
    · simp only [Act.put, zS, zZ, zC, i64_w, i32_w]
      rfl
    refine pure_ (i := 12) (N := some 6) (v := ?_) (a' := ?_) #[T_, T_, T_, T_, T_, T_, T_, T_, T_, T_, T_, T_, T_] rfl rfl (any_of HT_.out (by kernel_rfl)) (fun _ _ _ h => h) (Or.inl ⟨by rfl, ?_⟩) ?_ ?_
    rotate_left
    · intro w'
      go_simp
      with_reducible rfl
    rotate_left
    · simp only [Act.put, zS, zZ, zC, i64_w, i32_w]
      rfl
    refine done_ (done_of HT_.out (by kernel_rfl)) ?_
    try go_wp2
    go_ret
    exact ⟨by first | rfl | (simp [errW_none, errW_some] <;> rfl) | (simp [*, errW_none, errW_some] <;> rfl), bel_⟩
/-- THE ONE PURE STATEMENT of ropewaylaw21_PastSources. -/
def ropewaylaw21_PastSources.Pure : Prop := ∀ (l0 : List (S35)) (a1 : Int) (a2_0 : Int) (a2_1 : Int) (a2_2 : Int) (a2_3 : Int) (a2_4 : Int) (a2_5 : Nat) (a2_6 : Int) (a2_7 : Int) (a2_8 : Int) (a2_9 : Int) (a2_10 : Int) (a2_11 : Int) (a2_12 : Int) (a2_13 : Int) (a2_14 : Nat), (l0.length ≤ maxLen ∧ l0.length * 120 ≤ 140737488351232 ∧ ∀ y0 ∈ l0, ((Lit.int .i64 y0.f0).wf = true ∧ (Lit.int .i64 y0.f1).wf = true ∧ (Lit.int .i64 y0.f2).wf = true ∧ ((Lit.int .i64 y0.f3.f0).wf = true ∧ (Lit.int .i64 y0.f3.f1).wf = true ∧ y0.f3.f2 < 18446744073709551616 ∧ ((Lit.int .i64 y0.f3.f3.f0).wf = true ∧ (Lit.int .i64 y0.f3.f3.f1).wf = true)) ∧ ((Lit.int .i64 y0.f4.f0).wf = true ∧ ((Lit.int .i64 y0.f4.f1.f0).wf = true ∧ (Lit.int .i64 y0.f4.f1.f1).wf = true) ∧ ((Lit.int .i64 y0.f4.f2.f0).wf = true ∧ ((Lit.int .i64 y0.f4.f2.f1.f0).wf = true ∧ (Lit.int .i64 y0.f4.f2.f1.f1).wf = true) ∧ y0.f4.f2.f2 < 18446744073709551616)))) → (Lit.int .i64 a1).wf = true → (Lit.int .i64 a2_0).wf = true → (Lit.int .i64 a2_1).wf = true → (Lit.int .i64 a2_2).wf = true → (Lit.int .i64 a2_3).wf = true → (Lit.int .i64 a2_4).wf = true → a2_5 < 18446744073709551616 → (Lit.int .i64 a2_6).wf = true → (Lit.int .i64 a2_7).wf = true → (Lit.int .i64 a2_8).wf = true → (Lit.int .i64 a2_9).wf = true → (Lit.int .i64 a2_10).wf = true → (Lit.int .i64 a2_11).wf = true → (Lit.int .i64 a2_12).wf = true → (Lit.int .i64 a2_13).wf = true → a2_14 < 18446744073709551616 → ∃ k, ropewaylaw21_PastSources.f k l0 a1 a2_0 a2_1 a2_2 a2_3 a2_4 a2_5 a2_6 a2_7 a2_8 a2_9 a2_10 a2_11 a2_12 a2_13 a2_14 = some true

end Go.Proofs.Ytmenkbdaabjojaa.PPastSources
