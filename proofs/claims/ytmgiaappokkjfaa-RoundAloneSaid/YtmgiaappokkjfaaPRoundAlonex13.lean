/- Written by a program of this session (wip/tool/px.py) over the kit's print: what the code that the law RoundAlone reaches computes, function by function, and the law's row. -/
import Derived.Test.YtmgiaappokkjfaaPRoundAlonex0
import Derived.Test.YtmgiaappokkjfaaPRoundAlonex2
import Derived.Test.YtmgiaappokkjfaaPRoundAlonex3
import Derived.Test.YtmgiaappokkjfaaPRoundAlonex4
namespace Go.Proofs.Ytmgiaappokkjfaa.PRoundAlone
open Go.RowKit Go.Proofs.YtmgiaappokkjfaaX Go.Proofs.YtmgiaappokkjfaaW.PrintWords Go.Proofs.YtmgiaappokkjfaaW.PrintLast Go.Proofs.YtmgiaappokkjfaaW.PrintMore
open List renaming setIfInBounds_toArray → zS, set_cons_zero → zZ, set_cons_succ → zC
open Go.Proofs.YtmgiaappokkjfaaW.PrintWords renaming blk_cell → zL, below_step → zB
open Go.Proofs.YtmgiaappokkjfaaW.PrintWords.Aside0 renaming mk → zM
attribute [local go_sem] max2_int min2_int max_two min_two max_three min_three max_four min_four   -- for this text's walks alone
set_option linter.unusedVariables false
set_option linter.unusedSimpArgs false

attribute [local go_sem] px_store_float px_neg_float px_call84
attribute [local go_sem] px_eqarr67 px_nilq24 px_nilq25
attribute [local go_sem high] eqA43 eqA45
/-! ### round_Round_Cells: function 18 -/
def round_Round_Cells.f (a0_0 : Int) (a0_1 : Int) (a0_2 : Int) (a0_3 : Int) (a0_4 : Int) (a0_5 : Int) (a0_6 : Int) (l0_7 : List (S43)) (l0_8 : List (S48)) (a0_9 : Bool) (a0_10 : Bool) (a0_11 : Bool) (a0_12 : Bool) (a0_13 : Bool) (a0_14 : Bool) (l0_15 : List (S43)) (l0_16 : List (S48)) : Option ((List (S43))) := (api_Cell_44.f l0_15).bind fun t385 => (some t385)
set_option maxHeartbeats 8000000 in
set_option maxRecDepth 100000 in
theorem round_Round_Cells.calls (g0_0 : Nat) (a0_0 : Int) (a0_1 : Int) (a0_2 : Int) (a0_3 : Int) (a0_4 : Int) (a0_5 : Int) (a0_6 : Int) (A0_7 : Option Addr) (c0_7 : Nat) (l0_7 : List (S43)) (A0_8 : Option Addr) (c0_8 : Nat) (l0_8 : List (S48)) (a0_9 : Bool) (a0_10 : Bool) (a0_11 : Bool) (a0_12 : Bool) (a0_13 : Bool) (a0_14 : Bool) (A0_15 : Option Addr) (c0_15 : Nat) (l0_15 : List (S43)) (A0_16 : Option Addr) (c0_16 : Nat) (l0_16 : List (S48)) (r : List (S43)) (w : World) (hr0_7 : Kd.C k43 w A0_7 l0_7.length l0_7) (hc0_7 : l0_7.length ≤ c0_7) (hr0_8 : Kd.C k48 w A0_8 l0_8.length l0_8) (hc0_8 : l0_8.length ≤ c0_8) (hr0_15 : Kd.C k43 w A0_15 l0_15.length l0_15) (hc0_15 : l0_15.length ≤ c0_15) (hr0_16 : Kd.C k48 w A0_16 l0_16.length l0_16) (hc0_16 : l0_16.length ≤ c0_16) (hb0_0 : w.heap[g0_0]? = some (.cells #[.int .i64 a0_0, .int .i64 a0_1, .int .i64 a0_2, .int .i64 a0_3, .int .i64 a0_4, .int .i64 a0_5, .int .i64 a0_6, .slice A0_7 l0_7.length c0_7, .slice A0_8 l0_8.length c0_8, .bool a0_9, .bool a0_10, .bool a0_11, .bool a0_12, .bool a0_13, .bool a0_14, .slice A0_15 l0_15.length c0_15, .slice A0_16 l0_16.length c0_16] 71 (0, 0))) (h : round_Round_Cells.f a0_0 a0_1 a0_2 a0_3 a0_4 a0_5 a0_6 l0_7 l0_8 a0_9 a0_10 a0_11 a0_12 a0_13 a0_14 l0_15 l0_16 = some r) :
    Calls Try.prog 18 #[.pointer (some ⟨g0_0, 0, none⟩)] w fun e w' => ∃ v0_ : Value, e = .returned (v0_) ∧ Kd.R k43 43 w' w.heap.size (fun _ => True) v0_ r ∧ Below w.heap.size w w' := by
  have HR0_7 := zM hr0_7
  have HC0_7 := zM hc0_7
  clear hr0_7 hc0_7
  have HR0_8 := zM hr0_8
  have HC0_8 := zM hc0_8
  clear hr0_8 hc0_8
  have HR0_15 := zM hr0_15
  have HC0_15 := zM hc0_15
  clear hr0_15 hc0_15
  have HR0_16 := zM hr0_16
  have HC0_16 := zM hc0_16
  clear hr0_16 hc0_16
  have BK40 := zM hb0_0
  clear hb0_0
  have HB := zM (Below.refl w.heap.size w)
  have H : ((api_Cell_44.f l0_15).bind fun t385 => (some t385)) = some r := h
  clear h
  replace H := Option.bind_eq_some_iff.mp H
  obtain ⟨t385, A20, H⟩ := H
  replace H : (some t385) = some r := H
  have A2 := zM A20
  clear A20
  obtain rfl := Option.some.inj H
  have hcz3_0 : w.cell? ⟨g0_0, 0, none⟩ = some (.int .i64 a0_0) := (zL BK40.out 0).trans rfl
  have hcz3_1 : w.cell? ⟨g0_0, 1, none⟩ = some (.int .i64 a0_1) := (zL BK40.out 1).trans rfl
  have hcz3_2 : w.cell? ⟨g0_0, 2, none⟩ = some (.int .i64 a0_2) := (zL BK40.out 2).trans rfl
  have hcz3_3 : w.cell? ⟨g0_0, 3, none⟩ = some (.int .i64 a0_3) := (zL BK40.out 3).trans rfl
  have hcz3_4 : w.cell? ⟨g0_0, 4, none⟩ = some (.int .i64 a0_4) := (zL BK40.out 4).trans rfl
  have hcz3_5 : w.cell? ⟨g0_0, 5, none⟩ = some (.int .i64 a0_5) := (zL BK40.out 5).trans rfl
  have hcz3_6 : w.cell? ⟨g0_0, 6, none⟩ = some (.int .i64 a0_6) := (zL BK40.out 6).trans rfl
  have hcz3_7 : w.cell? ⟨g0_0, 7, none⟩ = some (.slice A0_7 l0_7.length c0_7) := (zL BK40.out 7).trans rfl
  have hcz3_8 : w.cell? ⟨g0_0, 8, none⟩ = some (.slice A0_8 l0_8.length c0_8) := (zL BK40.out 8).trans rfl
  have hcz3_9 : w.cell? ⟨g0_0, 9, none⟩ = some (.bool a0_9) := (zL BK40.out 9).trans rfl
  have hcz3_10 : w.cell? ⟨g0_0, 10, none⟩ = some (.bool a0_10) := (zL BK40.out 10).trans rfl
  have hcz3_11 : w.cell? ⟨g0_0, 11, none⟩ = some (.bool a0_11) := (zL BK40.out 11).trans rfl
  have hcz3_12 : w.cell? ⟨g0_0, 12, none⟩ = some (.bool a0_12) := (zL BK40.out 12).trans rfl
  have hcz3_13 : w.cell? ⟨g0_0, 13, none⟩ = some (.bool a0_13) := (zL BK40.out 13).trans rfl
  have hcz3_14 : w.cell? ⟨g0_0, 14, none⟩ = some (.bool a0_14) := (zL BK40.out 14).trans rfl
  have hcz3_15 : w.cell? ⟨g0_0, 15, none⟩ = some (.slice A0_15 l0_15.length c0_15) := (zL BK40.out 15).trans rfl
  have hcz3_16 : w.cell? ⟨g0_0, 16, none⟩ = some (.slice A0_16 l0_16.length c0_16) := (zL BK40.out 16).trans rfl
  obtain ⟨hfz3_0, hfz3_1, hfz3_2, hfz3_3, hfz3_4, hfz3_5, hfz3_6, hfz3_7, hfz3_8, hfz3_9, hfz3_10, hfz3_11, hfz3_12, hfz3_13, hfz3_14, hfz3_15, hfz3_16⟩ := f17_ BK40.out
  go_enter Try.func18, Try.ntmps18
  go_wp2_with (first | ((with_reducible refine gate_callee (f := 44) rfl ?_); refine goL_ (some 7) Try.func44 #[.slice A0_15 l0_15.length c0_15] ?_; (with_reducible refine (api_Cell_44.calls _ _ l0_15 t385 _ ?side1 ?side2 A2.out).mono ?_); (case side1 => repeat (first | exact HR0_15.out | (with_reducible refine Kd.C_alloc ?_ _) | (with_reducible refine Kd.C_drewN ?_ _) | (with_reducible refine Kd.C_drew ?_))); (case side2 => exact HC0_15.out); rintro e w4 ⟨v386, rfl, ho0, hb⟩; refine ⟨_, rfl, ?_⟩; have HO387 := zM (Kd.R_lower ho0 (below_size bel_)); replace BK40 := zM (blk_below (g := g0_0) (o := .cells #[.int .i64 a0_0, .int .i64 a0_1, .int .i64 a0_2, .int .i64 a0_3, .int .i64 a0_4, .int .i64 a0_5, .int .i64 a0_6, .slice A0_7 l0_7.length c0_7, .slice A0_8 l0_8.length c0_8, .bool a0_9, .bool a0_10, .bool a0_11, .bool a0_12, .bool a0_13, .bool a0_14, .slice A0_15 l0_15.length c0_15, .slice A0_16 l0_16.length c0_16] 71 (0, 0)) blk_ hb); replace HB := zM (zB bel_ hb); (try clear hb); (try clear hb2); (try clear hk); (try clear hi); (try clear ho0)))
  go_ret
  exact ⟨_, by first | rfl | (simp [errW_none, errW_some] <;> rfl) | (simp [*, errW_none, errW_some] <;> rfl), by (with_reducible repeat (first | apply Kd.R_alloc | apply Kd.R_drewN | apply Kd.R_drew)); exact HO387.out, bel_⟩
/-! ### round_Round_Book: function 19 -/
def round_Round_Book.f (a0_0 : Int) (a0_1 : Int) (a0_2 : Int) (a0_3 : Int) (a0_4 : Int) (a0_5 : Int) (a0_6 : Int) (l0_7 : List (S43)) (l0_8 : List (S48)) (a0_9 : Bool) (a0_10 : Bool) (a0_11 : Bool) (a0_12 : Bool) (a0_13 : Bool) (a0_14 : Bool) (l0_15 : List (S43)) (l0_16 : List (S48)) : Option ((List (S48))) := (api_Entry_45.f l0_16).bind fun t388 => (some t388)
set_option maxHeartbeats 8000000 in
set_option maxRecDepth 100000 in
theorem round_Round_Book.calls (g0_0 : Nat) (a0_0 : Int) (a0_1 : Int) (a0_2 : Int) (a0_3 : Int) (a0_4 : Int) (a0_5 : Int) (a0_6 : Int) (A0_7 : Option Addr) (c0_7 : Nat) (l0_7 : List (S43)) (A0_8 : Option Addr) (c0_8 : Nat) (l0_8 : List (S48)) (a0_9 : Bool) (a0_10 : Bool) (a0_11 : Bool) (a0_12 : Bool) (a0_13 : Bool) (a0_14 : Bool) (A0_15 : Option Addr) (c0_15 : Nat) (l0_15 : List (S43)) (A0_16 : Option Addr) (c0_16 : Nat) (l0_16 : List (S48)) (r : List (S48)) (w : World) (hr0_7 : Kd.C k43 w A0_7 l0_7.length l0_7) (hc0_7 : l0_7.length ≤ c0_7) (hr0_8 : Kd.C k48 w A0_8 l0_8.length l0_8) (hc0_8 : l0_8.length ≤ c0_8) (hr0_15 : Kd.C k43 w A0_15 l0_15.length l0_15) (hc0_15 : l0_15.length ≤ c0_15) (hr0_16 : Kd.C k48 w A0_16 l0_16.length l0_16) (hc0_16 : l0_16.length ≤ c0_16) (hb0_0 : w.heap[g0_0]? = some (.cells #[.int .i64 a0_0, .int .i64 a0_1, .int .i64 a0_2, .int .i64 a0_3, .int .i64 a0_4, .int .i64 a0_5, .int .i64 a0_6, .slice A0_7 l0_7.length c0_7, .slice A0_8 l0_8.length c0_8, .bool a0_9, .bool a0_10, .bool a0_11, .bool a0_12, .bool a0_13, .bool a0_14, .slice A0_15 l0_15.length c0_15, .slice A0_16 l0_16.length c0_16] 71 (0, 0))) (h : round_Round_Book.f a0_0 a0_1 a0_2 a0_3 a0_4 a0_5 a0_6 l0_7 l0_8 a0_9 a0_10 a0_11 a0_12 a0_13 a0_14 l0_15 l0_16 = some r) :
    Calls Try.prog 19 #[.pointer (some ⟨g0_0, 0, none⟩)] w fun e w' => ∃ v0_ : Value, e = .returned (v0_) ∧ Kd.R k48 48 w' w.heap.size (fun _ => True) v0_ r ∧ Below w.heap.size w w' := by
  have HR0_7 := zM hr0_7
  have HC0_7 := zM hc0_7
  clear hr0_7 hc0_7
  have HR0_8 := zM hr0_8
  have HC0_8 := zM hc0_8
  clear hr0_8 hc0_8
  have HR0_15 := zM hr0_15
  have HC0_15 := zM hc0_15
  clear hr0_15 hc0_15
  have HR0_16 := zM hr0_16
  have HC0_16 := zM hc0_16
  clear hr0_16 hc0_16
  have BK40 := zM hb0_0
  clear hb0_0
  have HB := zM (Below.refl w.heap.size w)
  have H : ((api_Entry_45.f l0_16).bind fun t388 => (some t388)) = some r := h
  clear h
  replace H := Option.bind_eq_some_iff.mp H
  obtain ⟨t388, A20, H⟩ := H
  replace H : (some t388) = some r := H
  have A2 := zM A20
  clear A20
  obtain rfl := Option.some.inj H
  have hcz3_0 : w.cell? ⟨g0_0, 0, none⟩ = some (.int .i64 a0_0) := (zL BK40.out 0).trans rfl
  have hcz3_1 : w.cell? ⟨g0_0, 1, none⟩ = some (.int .i64 a0_1) := (zL BK40.out 1).trans rfl
  have hcz3_2 : w.cell? ⟨g0_0, 2, none⟩ = some (.int .i64 a0_2) := (zL BK40.out 2).trans rfl
  have hcz3_3 : w.cell? ⟨g0_0, 3, none⟩ = some (.int .i64 a0_3) := (zL BK40.out 3).trans rfl
  have hcz3_4 : w.cell? ⟨g0_0, 4, none⟩ = some (.int .i64 a0_4) := (zL BK40.out 4).trans rfl
  have hcz3_5 : w.cell? ⟨g0_0, 5, none⟩ = some (.int .i64 a0_5) := (zL BK40.out 5).trans rfl
  have hcz3_6 : w.cell? ⟨g0_0, 6, none⟩ = some (.int .i64 a0_6) := (zL BK40.out 6).trans rfl
  have hcz3_7 : w.cell? ⟨g0_0, 7, none⟩ = some (.slice A0_7 l0_7.length c0_7) := (zL BK40.out 7).trans rfl
  have hcz3_8 : w.cell? ⟨g0_0, 8, none⟩ = some (.slice A0_8 l0_8.length c0_8) := (zL BK40.out 8).trans rfl
  have hcz3_9 : w.cell? ⟨g0_0, 9, none⟩ = some (.bool a0_9) := (zL BK40.out 9).trans rfl
  have hcz3_10 : w.cell? ⟨g0_0, 10, none⟩ = some (.bool a0_10) := (zL BK40.out 10).trans rfl
  have hcz3_11 : w.cell? ⟨g0_0, 11, none⟩ = some (.bool a0_11) := (zL BK40.out 11).trans rfl
  have hcz3_12 : w.cell? ⟨g0_0, 12, none⟩ = some (.bool a0_12) := (zL BK40.out 12).trans rfl
  have hcz3_13 : w.cell? ⟨g0_0, 13, none⟩ = some (.bool a0_13) := (zL BK40.out 13).trans rfl
  have hcz3_14 : w.cell? ⟨g0_0, 14, none⟩ = some (.bool a0_14) := (zL BK40.out 14).trans rfl
  have hcz3_15 : w.cell? ⟨g0_0, 15, none⟩ = some (.slice A0_15 l0_15.length c0_15) := (zL BK40.out 15).trans rfl
  have hcz3_16 : w.cell? ⟨g0_0, 16, none⟩ = some (.slice A0_16 l0_16.length c0_16) := (zL BK40.out 16).trans rfl
  obtain ⟨hfz3_0, hfz3_1, hfz3_2, hfz3_3, hfz3_4, hfz3_5, hfz3_6, hfz3_7, hfz3_8, hfz3_9, hfz3_10, hfz3_11, hfz3_12, hfz3_13, hfz3_14, hfz3_15, hfz3_16⟩ := f17_ BK40.out
  go_enter Try.func19, Try.ntmps19
  go_wp2_with (first | ((with_reducible refine gate_callee (f := 45) rfl ?_); refine goL_ (some 7) Try.func45 #[.slice A0_16 l0_16.length c0_16] ?_; (with_reducible refine (api_Entry_45.calls _ _ l0_16 t388 _ ?side1 ?side2 A2.out).mono ?_); (case side1 => repeat (first | exact HR0_16.out | (with_reducible refine Kd.C_alloc ?_ _) | (with_reducible refine Kd.C_drewN ?_ _) | (with_reducible refine Kd.C_drew ?_))); (case side2 => exact HC0_16.out); rintro e w4 ⟨v389, rfl, ho0, hb⟩; refine ⟨_, rfl, ?_⟩; have HO390 := zM (Kd.R_lower ho0 (below_size bel_)); replace BK40 := zM (blk_below (g := g0_0) (o := .cells #[.int .i64 a0_0, .int .i64 a0_1, .int .i64 a0_2, .int .i64 a0_3, .int .i64 a0_4, .int .i64 a0_5, .int .i64 a0_6, .slice A0_7 l0_7.length c0_7, .slice A0_8 l0_8.length c0_8, .bool a0_9, .bool a0_10, .bool a0_11, .bool a0_12, .bool a0_13, .bool a0_14, .slice A0_15 l0_15.length c0_15, .slice A0_16 l0_16.length c0_16] 71 (0, 0)) blk_ hb); replace HB := zM (zB bel_ hb); (try clear hb); (try clear hb2); (try clear hk); (try clear hi); (try clear ho0)))
  go_ret
  exact ⟨_, by first | rfl | (simp [errW_none, errW_some] <;> rfl) | (simp [*, errW_none, errW_some] <;> rfl), by (with_reducible repeat (first | apply Kd.R_alloc | apply Kd.R_drewN | apply Kd.R_drew)); exact HO390.out, bel_⟩
/-! ### ropewayref10_Same: function 27 -/
def ropewayref10_Same.l0 : Nat → List (S43) → List (S43) → Int → Int → Option (Bool)
  | 0, _, _, _, _ => none
  | k + 1, x0, x1, x12, x13 => if x13 < x12 then (if 0 ≤ x13 then (if x13 < (x0.length : Int) then (if x13 < (x1.length : Int) then (if (!(((rd_T43 x0 x13).f0) == ((rd_T43 x1 x13).f0)) || ((!(((rd_T43 x0 x13).f1.f0) == ((rd_T43 x1 x13).f1.f0)) || (!(((rd_T43 x0 x13).f1.f1) == ((rd_T43 x1 x13).f1.f1)))))) = true then (some false) else (ropewayref10_Same.l0 k x0 x1 x12 (wrap64 (x13 + 1)))) else (none)) else (none)) else (none)) else (some true)
def ropewayref10_Same.f (k : Nat) (l0 : List (S43)) (l1 : List (S43)) : Option (Bool) := if (l0.length : Int) = (l1.length : Int) then (ropewayref10_Same.l0 k l0 l1 (l0.length : Int) 0) else (some false)
theorem ropewayref10_Same.mono_l : ∀ k, (∀ y0 y1 y2 y3, LeO (ropewayref10_Same.l0 k y0 y1 y2 y3) (ropewayref10_Same.l0 (k + 1) y0 y1 y2 y3))
  | 0 => fun _ _ _ _ r h => by simp [ropewayref10_Same.l0] at h
  | k + 1 => by
    have ih0 := ropewayref10_Same.mono_l k
    · intro y0 y1 y2 y3
      unfold ropewayref10_Same.l0
      repeat' first
      | (with_reducible exact ih0 _ _ _ _)
      | (with_reducible exact LeO.refl _)
      | (with_reducible exact LeO.none _)
      | (with_reducible refine LeO.ite ?_ ?_)
      | (with_reducible refine LeO.bind ?_ (fun _ => ?_))
      | exact ih0 _ _ _ _
      | exact LeO.none _
      | refine LeO.ite ?_ ?_
      | refine LeO.bind ?_ (fun _ => ?_)
theorem ropewayref10_Same.mono : ∀ a0 a1 k, LeO (ropewayref10_Same.f k a0 a1) (ropewayref10_Same.f (k + 1) a0 a1) := by
  intro a0 a1 k
  have ih0 := ropewayref10_Same.mono_l k
  unfold ropewayref10_Same.f
  repeat' first
      | (with_reducible exact ih0 _ _ _ _)
      | (with_reducible exact LeO.refl _)
      | (with_reducible exact LeO.none _)
      | (with_reducible refine LeO.ite ?_ ?_)
      | (with_reducible refine LeO.bind ?_ (fun _ => ?_))
      | exact ih0 _ _ _ _
      | exact LeO.none _
      | refine LeO.ite ?_ ?_
      | refine LeO.bind ?_ (fun _ => ?_)
set_option maxHeartbeats 8000000 in
set_option maxRecDepth 100000 in
theorem ropewayref10_Same.calls (k : Nat) (A0 : Option Addr) (c0 : Nat) (l0 : List (S43)) (A1 : Option Addr) (c1 : Nat) (l1 : List (S43)) (r : Bool) (w : World) (hr0 : Kd.C k43 w A0 l0.length l0) (hc0 : l0.length ≤ c0) (hr1 : Kd.C k43 w A1 l1.length l1) (hc1 : l1.length ≤ c1) (h : ropewayref10_Same.f k l0 l1 = some r) :
    Calls Try.prog 27 #[.slice A0 l0.length c0, .slice A1 l1.length c1] w fun e w' => e = .returned (.bool r) ∧ Drawn0 w w' := by
  have hu43 := Try.underlying43
  have HR0 := zM hr0
  have HC0 := zM hc0
  clear hr0 hc0
  have HR1 := zM hr1
  have HC1 := zM hc1
  clear hr1 hc1
  have H : (if (l0.length : Int) = (l1.length : Int) then (ropewayref10_Same.l0 k l0 l1 (l0.length : Int) 0) else (some false)) = some r := h
  clear h
  by_cases c3 : (l0.length : Int) = (l1.length : Int)
  rotate_left
  · rw [if_neg c3] at H
    have c3b0 : ((l0.length : Int) == (l1.length : Int)) = false := beq_eq_false_iff_ne.mpr c3
    have c3b1 : ((l0.length : Int) != (l1.length : Int)) = true := bne_iff_ne.mpr c3
    have c3b2 : (l0.length == l1.length) = false := by first | simpa using c3 | (simp at c3 ⊢; omega)
    obtain rfl := Option.some.inj H
    go_enter Try.func27, Try.ntmps27
    go_wp2
    go_ret
    exact ⟨by first | rfl | (simp; done) | (simp [*]; done) | (simp; grind), by repeat (first | exact Drawn0.refl _ | apply Drawn0.step)⟩
  rw [if_pos c3] at H
  have c3b0 : ((l0.length : Int) == (l1.length : Int)) = true := beq_iff_eq.mpr c3
  have c3b1 : ((l0.length : Int) != (l1.length : Int)) = false := bne_eq_false_iff_eq.mpr c3
  have c3b2 : (l0.length == l1.length) = true := by first | simpa using c3 | (simp at c3 ⊢; omega)
  clear c3
  have H' := zM H
  clear H
  go_enter Try.func27, Try.ntmps27
  go_wp2
  go_loopg [13] k (fun kq v13 w' => ∃ (x13_1 : Int), v13 = .int .i64 x13_1 ∧ Aside0 (ropewayref10_Same.l0 kq l0 l1 (l0.length : Int) x13_1 = some r) ∧ Aside0 (kq ≤ k) ∧ Drawn0 w w')
  case atStart => exact ⟨(0), (by first | rfl | (simp; done) | (simp [*]; done) | (simp; grind)), H', ⟨Nat.le_refl _⟩, by repeat (first | exact Drawn0.refl _ | apply Drawn0.step)⟩
  case round =>
   clear H'
   try clear c1
   try clear c2
   try clear p2
   try clear c3
   try clear c3b0
   try clear c3b1
   try clear c3b2
   obtain ⟨x13_1, rfl, HA, HK1, ⟨m1, rfl⟩⟩ := hrel
   cases gk with
   | zero => exact absurd HA.out (by simp [ropewayref10_Same.l0])
   | succ k1 =>
    have H := HA.out
    clear HA
    simp only [ropewayref10_Same.l0] at H
    by_cases c4 : x13_1 < (l0.length : Int)
    rotate_left
    · rw [if_neg c4] at H
      have c4b0 : decide (x13_1 < (l0.length : Int)) = false := decide_eq_false c4
      clear c4
      obtain rfl := Option.some.inj H
      go_wp2
      go_ret
      exact ⟨by first | rfl | (simp; done) | (simp [*]; done) | (simp; grind), by repeat (first | exact Drawn0.refl _ | apply Drawn0.step)⟩
    rw [if_pos c4] at H
    have c4b0 : decide (x13_1 < (l0.length : Int)) = true := decide_eq_true c4
    clear c4
    by_cases c5 : 0 ≤ x13_1
    rotate_left
    · rw [if_neg c5] at H
      exact absurd H (by simp)
    rw [if_pos c5] at H
    have c5b0 : decide (0 ≤ x13_1) = true := decide_eq_true c5
    clear c5
    by_cases c6 : x13_1 < (l0.length : Int)
    rotate_left
    · rw [if_neg c6] at H
      exact absurd H (by simp)
    rw [if_pos c6] at H
    have c6b0 : decide (x13_1 < (l0.length : Int)) = true := decide_eq_true c6
    clear c6
    by_cases c7 : x13_1 < (l1.length : Int)
    rotate_left
    · rw [if_neg c7] at H
      exact absurd H (by simp)
    rw [if_pos c7] at H
    have c7b0 : decide (x13_1 < (l1.length : Int)) = true := decide_eq_true c7
    clear c7
    by_cases c8 : (!(((rd_T43 l0 x13_1).f0) == ((rd_T43 l1 x13_1).f0)) || ((!(((rd_T43 l0 x13_1).f1.f0) == ((rd_T43 l1 x13_1).f1.f0)) || (!(((rd_T43 l0 x13_1).f1.f1) == ((rd_T43 l1 x13_1).f1.f1)))))) = true
    · rw [if_pos c8] at H
      have c8b0 : (!(((rd_T43 l0 x13_1).f0) == ((rd_T43 l1 x13_1).f0)) || ((!(((rd_T43 l0 x13_1).f1.f0) == ((rd_T43 l1 x13_1).f1.f0)) || (!(((rd_T43 l0 x13_1).f1.f1) == ((rd_T43 l1 x13_1).f1.f1)))))) = true := c8
      clear c8
      have p391 : 0 ≤ (x13_1 : Int) := of_decide_eq_true (by first | (with_reducible assumption) | assumption)
      have q391 : x13_1 < (l0.length : Int) := of_decide_eq_true (by first | (with_reducible assumption) | assumption)
      obtain ⟨ad391, e391, hx391_0, hx391_1, hx391_2⟩ := at_T43 HR0.out x13_1 p391 q391
      cases e391
      replace p391 := eq_true p391
      replace q391 := eq_true q391
      have p392 : 0 ≤ (x13_1 : Int) := of_decide_eq_true (by first | (with_reducible assumption) | assumption)
      have q392 : x13_1 < (l1.length : Int) := of_decide_eq_true (by first | (with_reducible assumption) | assumption)
      obtain ⟨ad392, e392, hx392_0, hx392_1, hx392_2⟩ := at_T43 HR1.out x13_1 p392 q392
      cases e392
      replace p392 := eq_true p392
      replace q392 := eq_true q392
      go_upto_region 7 with (fail)
      go_quiet (fail)
      go_upto_region 7 with (fail)
      obtain rfl := Option.some.inj H
      go_wp2
      go_ret
      exact ⟨by first | rfl | (simp; done) | (simp [*]; done) | (simp; grind), by repeat (first | exact Drawn0.refl _ | apply Drawn0.step)⟩
    rw [if_neg c8] at H
    have c8b0 : (!(((rd_T43 l0 x13_1).f0) == ((rd_T43 l1 x13_1).f0)) || ((!(((rd_T43 l0 x13_1).f1.f0) == ((rd_T43 l1 x13_1).f1.f0)) || (!(((rd_T43 l0 x13_1).f1.f1) == ((rd_T43 l1 x13_1).f1.f1)))))) = false := by simpa using c8
    clear c8
    have p391 : 0 ≤ (x13_1 : Int) := of_decide_eq_true (by first | (with_reducible assumption) | assumption)
    have q391 : x13_1 < (l0.length : Int) := of_decide_eq_true (by first | (with_reducible assumption) | assumption)
    obtain ⟨ad391, e391, hx391_0, hx391_1, hx391_2⟩ := at_T43 HR0.out x13_1 p391 q391
    cases e391
    replace p391 := eq_true p391
    replace q391 := eq_true q391
    have p392 : 0 ≤ (x13_1 : Int) := of_decide_eq_true (by first | (with_reducible assumption) | assumption)
    have q392 : x13_1 < (l1.length : Int) := of_decide_eq_true (by first | (with_reducible assumption) | assumption)
    obtain ⟨ad392, e392, hx392_0, hx392_1, hx392_2⟩ := at_T43 HR1.out x13_1 p392 q392
    cases e392
    replace p392 := eq_true p392
    replace q392 := eq_true q392
    go_upto_region 8 with (fail)
    go_quiet (fail)
    go_upto_region 8 with (fail)
    have H' := zM H
    clear H
    go_wp2
    go_roundg k1
    case measure => have := HK1.out; omega
    case rel => exact ⟨(wrap64 (x13_1 + 1)), (by first | rfl | (simp; done) | (simp [*]; done) | (simp; grind)), H', ⟨by have := HK1.out; omega⟩, by repeat (first | exact Drawn0.refl _ | apply Drawn0.step)⟩
/-! ### ropewayref01_Parts: function 99 -/
def ropewayref01_Parts.f (a0 : Int) : Option (Int × Int × Int) := some (a0 / 9223372036854775808, Go.bits .and .u64 (a0 / 4503599627370496) 2047, Go.bits .and .u64 a0 4503599627370495)
set_option maxHeartbeats 8000000 in
set_option maxRecDepth 100000 in
theorem ropewayref01_Parts.calls (a0 : Int) (r1 : Int) (r2 : Int) (r3 : Int) (w : World) (h : ropewayref01_Parts.f a0 = some (r1, r2, r3)) :
    Calls Try.prog 99 #[.int .u64 a0] w fun e w' => e = .returned (.tuple #[.int .u64 r1, .int .u64 r2, .int .u64 r3]) ∧ Drawn0 w w' := by
  have H : (some (a0 / 9223372036854775808, Go.bits .and .u64 (a0 / 4503599627370496) 2047, Go.bits .and .u64 a0 4503599627370495)) = some (r1, r2, r3) := h
  clear h
  simp only [Option.some.injEq, Prod.mk.injEq] at H
  obtain ⟨rfl, rfl, rfl⟩ := H
  go_enter Try.func99, Try.ntmps99
  go_wp2
  go_ret3
  exact ⟨by first | rfl | (simp; done) | (simp [*]; done) | (simp; grind), by repeat (first | exact Drawn0.refl _ | apply Drawn0.step)⟩
/-! ### ropewayref01_Clean: function 83 -/
def ropewayref01_Clean.f (a0 : Int) : Option (Int) := (ropewayref01_Parts.f a0).bind fun bt393 => (if bt393.2.1 = 2047 then (if bt393.2.2 = 0 then (some a0) else (some 9221120237041090561)) else (some a0))
set_option maxHeartbeats 8000000 in
set_option maxRecDepth 100000 in
theorem ropewayref01_Clean.calls (a0 : Int) (r : Int) (w : World) (h : ropewayref01_Clean.f a0 = some r) :
    Calls Try.prog 83 #[.int .u64 a0] w fun e w' => e = .returned (.int .u64 r) ∧ Drawn0 w w' := by
  have H : ((ropewayref01_Parts.f a0).bind fun bt393 => (if bt393.2.1 = 2047 then (if bt393.2.2 = 0 then (some a0) else (some 9221120237041090561)) else (some a0))) = some r := h
  clear h
  replace H := Option.bind_eq_some_iff.mp H
  obtain ⟨⟨t393, t394, t395⟩, A20, H⟩ := H
  replace H : (if t394 = 2047 then (if t395 = 0 then (some a0) else (some 9221120237041090561)) else (some a0)) = some r := H
  have A2 := zM A20
  clear A20
  by_cases c3 : t394 = 2047
  rotate_left
  · rw [if_neg c3] at H
    have c3b0 : (t394 == 2047) = false := beq_eq_false_iff_ne.mpr c3
    have c3b1 : (t394 != 2047) = true := bne_iff_ne.mpr c3
    obtain rfl := Option.some.inj H
    go_enter Try.func83, Try.ntmps83
    go_wp2_with (first | ((with_reducible refine gate_callee (f := 99) rfl ?_); refine goL_ (some 8) Try.func99 #[.int .u64 a0] ?_; (with_reducible refine (ropewayref01_Parts.calls a0 t393 t394 t395 _ A2.out).mono ?_); rintro e w' ⟨rfl, ⟨nd, rfl⟩⟩; refine ⟨_, rfl, ?_⟩))
    go_ret
    exact ⟨by first | rfl | (simp; done) | (simp [*]; done) | (simp; grind), by repeat (first | exact Drawn0.refl _ | apply Drawn0.step)⟩
  rw [if_pos c3] at H
  have c3b0 : (t394 == 2047) = true := beq_iff_eq.mpr c3
  have c3b1 : (t394 != 2047) = false := bne_eq_false_iff_eq.mpr c3
  clear c3
  by_cases c4 : t395 = 0
  rotate_left
  · rw [if_neg c4] at H
    have c4b0 : (t395 == 0) = false := beq_eq_false_iff_ne.mpr c4
    have c4b1 : (t395 != 0) = true := bne_iff_ne.mpr c4
    obtain rfl := Option.some.inj H
    go_enter Try.func83, Try.ntmps83
    go_wp2_with (first | ((with_reducible refine gate_callee (f := 99) rfl ?_); refine goL_ (some 8) Try.func99 #[.int .u64 a0] ?_; (with_reducible refine (ropewayref01_Parts.calls a0 t393 t394 t395 _ A2.out).mono ?_); rintro e w' ⟨rfl, ⟨nd, rfl⟩⟩; refine ⟨_, rfl, ?_⟩))
    go_ret
    exact ⟨by first | rfl | (simp; done) | (simp [*]; done) | (simp; grind), by repeat (first | exact Drawn0.refl _ | apply Drawn0.step)⟩
  rw [if_pos c4] at H
  have c4b0 : (t395 == 0) = true := beq_iff_eq.mpr c4
  have c4b1 : (t395 != 0) = false := bne_eq_false_iff_eq.mpr c4
  clear c4
  obtain rfl := Option.some.inj H
  go_enter Try.func83, Try.ntmps83
  go_wp2_with (first | ((with_reducible refine gate_callee (f := 99) rfl ?_); refine goL_ (some 8) Try.func99 #[.int .u64 a0] ?_; (with_reducible refine (ropewayref01_Parts.calls a0 t393 t394 t395 _ A2.out).mono ?_); rintro e w' ⟨rfl, ⟨nd, rfl⟩⟩; refine ⟨_, rfl, ?_⟩))
  go_ret
  exact ⟨by first | rfl | (simp; done) | (simp [*]; done) | (simp; grind), by repeat (first | exact Drawn0.refl _ | apply Drawn0.step)⟩
/-! ### ropewayref01_Bits: function 59 -/
def ropewayref01_Bits.f (a0 : Nat) : Option (Int) := (ropewayref01_Clean.f ((a0 : Nat) : Int)).bind fun t396 => (some t396)
set_option maxHeartbeats 8000000 in
set_option maxRecDepth 100000 in
theorem ropewayref01_Bits.calls (a0 : Nat) (r : Int) (w : World) (h : ropewayref01_Bits.f a0 = some r) :
    Calls Try.prog 59 #[.float .f64 a0] w fun e w' => e = .returned (.int .u64 r) ∧ Drawn0 w w' := by
  have H : ((ropewayref01_Clean.f ((a0 : Nat) : Int)).bind fun t396 => (some t396)) = some r := h
  clear h
  replace H := Option.bind_eq_some_iff.mp H
  obtain ⟨t396, A20, H⟩ := H
  replace H : (some t396) = some r := H
  have A2 := zM A20
  clear A20
  obtain rfl := Option.some.inj H
  go_enter Try.func59, Try.ntmps59
  go_wp2_with (first | ((with_reducible refine gate_callee (f := 83) rfl ?_); refine goL_ (some 5) Try.func83 #[.int .u64 ((a0 : Nat) : Int)] ?_; (with_reducible refine (ropewayref01_Clean.calls ((a0 : Nat) : Int) t396 _ A2.out).mono ?_); rintro e w' ⟨rfl, ⟨nd, rfl⟩⟩; refine ⟨_, rfl, ?_⟩))
  go_ret
  exact ⟨by first | rfl | (simp; done) | (simp [*]; done) | (simp; grind), by repeat (first | exact Drawn0.refl _ | apply Drawn0.step)⟩
/-! ### ropewayref07_Alike: function 33 -/
def ropewayref07_Alike.f (a0_0 : Int) (a0_1 : Int) (a0_2 : Int) (a0_3 : Nat) (a1_0 : Int) (a1_1 : Int) (a1_2 : Int) (a1_3 : Nat) : Option (Bool) := if a0_0 = a1_0 then (if (a0_1 == a1_1 && (a0_2 == a1_2)) = true then ((ropewayref01_Bits.f a0_3).bind fun t399 => ((ropewayref01_Bits.f a1_3).bind fun t400 => (some (t399 == t400)))) else (some false)) else (some false)
set_option maxHeartbeats 8000000 in
set_option maxRecDepth 100000 in
theorem ropewayref07_Alike.calls (a0_0 : Int) (a0_1 : Int) (a0_2 : Int) (a0_3 : Nat) (a1_0 : Int) (a1_1 : Int) (a1_2 : Int) (a1_3 : Nat) (r : Bool) (w : World) (h : ropewayref07_Alike.f a0_0 a0_1 a0_2 a0_3 a1_0 a1_1 a1_2 a1_3 = some r) :
    Calls Try.prog 33 #[.agg #[.int .i64 a0_0, .int .i64 a0_1, .int .i64 a0_2, .float .f64 a0_3], .agg #[.int .i64 a1_0, .int .i64 a1_1, .int .i64 a1_2, .float .f64 a1_3]] w fun e w' => e = .returned (.bool r) ∧ Below w.heap.size w w' := by
  have hu48 := Try.underlying48
  have hu45 := Try.underlying45
  have HB := zM (Below.refl w.heap.size w)
  have H : (if a0_0 = a1_0 then (if (a0_1 == a1_1 && (a0_2 == a1_2)) = true then ((ropewayref01_Bits.f a0_3).bind fun t399 => ((ropewayref01_Bits.f a1_3).bind fun t400 => (some (t399 == t400)))) else (some false)) else (some false)) = some r := h
  clear h
  go_enter Try.func33, Try.ntmps33
  go_upto_region 1 with (first | ((with_reducible refine gate_dst (N := 2) rfl ?_); refine box_event ?hg (N := 2) ?hd (cs := #[.int .i64 a0_0, .int .i64 a0_1, .int .i64 a0_2, .float .f64 a0_3]) (t := 48) ?hr ?_; (case hd => rfl); (case hg => rfl); (case hr => first | (go_simp; done) | (go_simp; rfl)); intro gb397 hg w3 hbox hb; have BK397 := zM (hbox); have GW397 := zM (bs_ hg); have GE397 := zM (bs_ hg); replace HB := zM (zB bel_ hb); clear hb hbox hg) | ((with_reducible refine gate_dst (N := 3) rfl ?_); refine box_event ?hg (N := 3) ?hd (cs := #[.int .i64 a1_0, .int .i64 a1_1, .int .i64 a1_2, .float .f64 a1_3]) (t := 48) ?hr ?_; (case hd => rfl); (case hg => rfl); (case hr => first | (go_simp; done) | (go_simp; rfl)); intro gb398 hg w4 hbox hb; have BK398 := zM (hbox); have GW398 := zM (bs_ hg); have GE398 := zM (bs_ hg); replace HB := zM (zB bel_ hb); have NB397_398 := zM (nl_ BK397 hg); have NB398_397 := zM (ng_ BK397 hg); replace BK397 := zM (bb_ BK397 hb); clear hb hbox hg))
  by_cases c5 : a0_0 = a1_0
  rotate_left
  · rw [if_neg c5] at H
    have c5b0 : (a0_0 == a1_0) = false := beq_eq_false_iff_ne.mpr c5
    have c5b1 : (a0_0 != a1_0) = true := bne_iff_ne.mpr c5
    obtain rfl := Option.some.inj H
    have hnb15 := NB397_398.out
    have hnc15 := NB398_397.out
    obtain ⟨hcz16_0, hcz16_1, hcz16_2, hcz16_3⟩ := r4_ BK397.out
    obtain ⟨hfz16_0, hfz16_1, hfz16_2, hfz16_3⟩ := f4_ BK397.out
    obtain ⟨hcz17_0, hcz17_1, hcz17_2, hcz17_3⟩ := r4_ BK398.out
    obtain ⟨hfz17_0, hfz17_1, hfz17_2, hfz17_3⟩ := f4_ BK398.out
    try go_wp2
    go_quiet (fail)
    try go_wp2
    go_ret
    exact ⟨by first | rfl | (simp [errW_none, errW_some] <;> rfl) | (simp [*, errW_none, errW_some] <;> rfl), bel_⟩
  rw [if_pos c5] at H
  have c5b0 : (a0_0 == a1_0) = true := beq_iff_eq.mpr c5
  have c5b1 : (a0_0 != a1_0) = false := bne_eq_false_iff_eq.mpr c5
  clear c5
  by_cases c6 : (a0_1 == a1_1 && (a0_2 == a1_2)) = true
  rotate_left
  · rw [if_neg c6] at H
    have c6b0 : (a0_1 == a1_1 && (a0_2 == a1_2)) = false := by simpa using c6
    (try (have c6b1 : decide (a0_1 = a1_1 && (a0_2 == a1_2)) = false := by simpa using c6))
    (try (have c6b2 : (a0_1 == a1_1 && (a0_2 == a1_2)) = false := by simpa using c6))
    (try (have c6b3 : ¬ (a0_1 = a1_1 && (a0_2 == a1_2)) := by simpa using c6))
    clear c6
    obtain rfl := Option.some.inj H
    have hnb12 := NB397_398.out
    have hnc12 := NB398_397.out
    obtain ⟨hcz13_0, hcz13_1, hcz13_2, hcz13_3⟩ := r4_ BK397.out
    obtain ⟨hfz13_0, hfz13_1, hfz13_2, hfz13_3⟩ := f4_ BK397.out
    obtain ⟨hcz14_0, hcz14_1, hcz14_2, hcz14_3⟩ := r4_ BK398.out
    obtain ⟨hfz14_0, hfz14_1, hfz14_2, hfz14_3⟩ := f4_ BK398.out
    try go_wp2
    go_quiet (fail)
    try go_wp2
    go_ret
    exact ⟨by first | rfl | (simp [errW_none, errW_some] <;> rfl) | (simp [*, errW_none, errW_some] <;> rfl), bel_⟩
  rw [if_pos c6] at H
  have c6b0 : (a0_1 == a1_1 && (a0_2 == a1_2)) = true := c6
  (try (have c6b1 : decide (a0_1 = a1_1 && (a0_2 == a1_2)) = true := by simpa using c6))
  (try (have c6b2 : (a0_1 == a1_1 && (a0_2 == a1_2)) = true := by simpa using c6))
  clear c6
  replace H := Option.bind_eq_some_iff.mp H
  obtain ⟨t399, A70, H⟩ := H
  replace H : ((ropewayref01_Bits.f a1_3).bind fun t400 => (some (t399 == t400))) = some r := H
  have A7 := zM A70
  clear A70
  replace H := Option.bind_eq_some_iff.mp H
  obtain ⟨t400, A80, H⟩ := H
  replace H : (some (t399 == t400)) = some r := H
  have A8 := zM A80
  clear A80
  obtain rfl := Option.some.inj H
  have hnb9 := NB397_398.out
  have hnc9 := NB398_397.out
  obtain ⟨hcz10_0, hcz10_1, hcz10_2, hcz10_3⟩ := r4_ BK397.out
  obtain ⟨hfz10_0, hfz10_1, hfz10_2, hfz10_3⟩ := f4_ BK397.out
  obtain ⟨hcz11_0, hcz11_1, hcz11_2, hcz11_3⟩ := r4_ BK398.out
  obtain ⟨hfz11_0, hfz11_1, hfz11_2, hfz11_3⟩ := f4_ BK398.out
  try go_wp2
  go_quiet (first | (go_at_call 59; (with_reducible refine (ropewayref01_Bits.calls a0_3 t399 _ A7.out).mono ?_); rintro e w' ⟨rfl, ⟨nd, rfl⟩⟩; (try first | exact ⟨rfl, _, World.drewN_drewN _ _ _⟩ | exact ⟨rfl, _, Eq.trans (World.drewN_drewN _ _ _) (congrArg (World.drewN _) (Nat.add_assoc _ _ _))⟩)) | (go_at_call 59; (with_reducible refine (ropewayref01_Bits.calls a1_3 t400 _ A8.out).mono ?_); rintro e w' ⟨rfl, ⟨nd, rfl⟩⟩; (try first | exact ⟨rfl, _, World.drewN_drewN _ _ _⟩ | exact ⟨rfl, _, Eq.trans (World.drewN_drewN _ _ _) (congrArg (World.drewN _) (Nat.add_assoc _ _ _))⟩)))
  try go_wp2
  go_ret
  exact ⟨by first | rfl | (simp [errW_none, errW_some] <;> rfl) | (simp [*, errW_none, errW_some] <;> rfl), bel_⟩
/-! ### ropewayref07_Same: function 29 -/
def ropewayref07_Same.l0 : Nat → List (S48) → List (S48) → Int → Int → Option (Bool)
  | 0, _, _, _, _ => none
  | k + 1, x0, x1, x12, x13 => if x13 < x12 then (if 0 ≤ x13 then (if x13 < (x0.length : Int) then (if x13 < (x1.length : Int) then ((ropewayref07_Alike.f ((rd_T48 x0 x13).f0) ((rd_T48 x0 x13).f1.f0) ((rd_T48 x0 x13).f1.f1) ((rd_T48 x0 x13).f2) ((rd_T48 x1 x13).f0) ((rd_T48 x1 x13).f1.f0) ((rd_T48 x1 x13).f1.f1) ((rd_T48 x1 x13).f2)).bind fun t403 => (if t403 = true then (ropewayref07_Same.l0 k x0 x1 x12 (wrap64 (x13 + 1))) else (some false))) else (none)) else (none)) else (none)) else (some true)
def ropewayref07_Same.f (k : Nat) (l0 : List (S48)) (l1 : List (S48)) : Option (Bool) := if (l0.length : Int) = (l1.length : Int) then (ropewayref07_Same.l0 k l0 l1 (l0.length : Int) 0) else (some false)
theorem ropewayref07_Same.mono_l : ∀ k, (∀ y0 y1 y2 y3, LeO (ropewayref07_Same.l0 k y0 y1 y2 y3) (ropewayref07_Same.l0 (k + 1) y0 y1 y2 y3))
  | 0 => fun _ _ _ _ r h => by simp [ropewayref07_Same.l0] at h
  | k + 1 => by
    have ih0 := ropewayref07_Same.mono_l k
    · intro y0 y1 y2 y3
      unfold ropewayref07_Same.l0
      repeat' first
      | (with_reducible exact ih0 _ _ _ _)
      | (with_reducible exact LeO.refl _)
      | (with_reducible exact LeO.none _)
      | (with_reducible refine LeO.ite ?_ ?_)
      | (with_reducible refine LeO.bind ?_ (fun _ => ?_))
      | exact ih0 _ _ _ _
      | exact LeO.none _
      | refine LeO.ite ?_ ?_
      | refine LeO.bind ?_ (fun _ => ?_)
theorem ropewayref07_Same.mono : ∀ a0 a1 k, LeO (ropewayref07_Same.f k a0 a1) (ropewayref07_Same.f (k + 1) a0 a1) := by
  intro a0 a1 k
  have ih0 := ropewayref07_Same.mono_l k
  unfold ropewayref07_Same.f
  repeat' first
      | (with_reducible exact ih0 _ _ _ _)
      | (with_reducible exact LeO.refl _)
      | (with_reducible exact LeO.none _)
      | (with_reducible refine LeO.ite ?_ ?_)
      | (with_reducible refine LeO.bind ?_ (fun _ => ?_))
      | exact ih0 _ _ _ _
      | exact LeO.none _
      | refine LeO.ite ?_ ?_
      | refine LeO.bind ?_ (fun _ => ?_)
def ropewayref07_Same.T6 : Bool × List (List Nat × List Nat) := (true, [([], []), ([], []), ([0, 1], [0, 1]), ([2], [2]), ([], []), ([], []), ([4, 5], [4, 5]), ([6], [6]), ([3, 7], [3, 7]), ([8], [8])])
def ropewayref07_Same.B6 : List Nat := [0, 0, 3, 7, 0, 0, 48, 112, 255, 511]
theorem ropewayref07_Same.tab6 : rtab .any (opsOf Try.f29 6) = ropewayref07_Same.T6 := by kernel_rfl
theorem ropewayref07_Same.bits6 : waitsOk ropewayref07_Same.T6.2 ropewayref07_Same.B6 = true := by kernel_rfl
set_option maxHeartbeats 8000000 in
set_option maxRecDepth 100000 in
theorem ropewayref07_Same.calls (k : Nat) (A0 : Option Addr) (c0 : Nat) (l0 : List (S48)) (A1 : Option Addr) (c1 : Nat) (l1 : List (S48)) (r : Bool) (w : World) (hr0 : Kd.C k48 w A0 l0.length l0) (hc0 : l0.length ≤ c0) (hr1 : Kd.C k48 w A1 l1.length l1) (hc1 : l1.length ≤ c1) (h : ropewayref07_Same.f k l0 l1 = some r) :
    Calls Try.prog 29 #[.slice A0 l0.length c0, .slice A1 l1.length c1] w fun e w' => e = .returned (.bool r) ∧ Below w.heap.size w w' := by
  have hu48 := Try.underlying48
  have HR0 := zM hr0
  have HC0 := zM hc0
  clear hr0 hc0
  have HR1 := zM hr1
  have HC1 := zM hc1
  clear hr1 hc1
  have HB := zM (Below.refl w.heap.size w)
  have H : (if (l0.length : Int) = (l1.length : Int) then (ropewayref07_Same.l0 k l0 l1 (l0.length : Int) 0) else (some false)) = some r := h
  clear h
  by_cases c3 : (l0.length : Int) = (l1.length : Int)
  rotate_left
  · rw [if_neg c3] at H
    have c3b0 : ((l0.length : Int) == (l1.length : Int)) = false := beq_eq_false_iff_ne.mpr c3
    have c3b1 : ((l0.length : Int) != (l1.length : Int)) = true := bne_iff_ne.mpr c3
    have c3b2 : (l0.length == l1.length) = false := by first | simpa using c3 | (simp at c3 ⊢; omega)
    obtain rfl := Option.some.inj H
    go_enter Try.func29, Try.ntmps29
    go_wp2
    go_ret
    exact ⟨by first | rfl | (simp [errW_none, errW_some] <;> rfl) | (simp [*, errW_none, errW_some] <;> rfl), bel_⟩
  rw [if_pos c3] at H
  have c3b0 : ((l0.length : Int) == (l1.length : Int)) = true := beq_iff_eq.mpr c3
  have c3b1 : ((l0.length : Int) != (l1.length : Int)) = false := bne_eq_false_iff_eq.mpr c3
  have c3b2 : (l0.length == l1.length) = true := by first | simpa using c3 | (simp at c3 ⊢; omega)
  clear c3
  have H' := zM H
  clear H
  go_enter Try.func29, Try.ntmps29
  go_wp2
  go_loopg [13] k (fun kq v13 w' => ∃ (x13_1 : Int), v13 = .int .i64 x13_1 ∧ Aside0 (ropewayref07_Same.l0 kq l0 l1 (l0.length : Int) x13_1 = some r) ∧ Aside0 (kq ≤ k) ∧ Aside0 (Below w.heap.size w w'))
  case atStart => exact ⟨(0), (by first | rfl | (simp; done) | (simp [*]; done) | (simp; grind)), H', ⟨Nat.le_refl _⟩, ⟨bel_⟩⟩
  case round =>
   clear H'
   try clear c1
   try clear c2
   try clear p2
   try clear c3
   try clear c3b0
   try clear c3b1
   try clear c3b2
   obtain ⟨x13_1, rfl, HA, HK1, HB⟩ := hrel
   cases gk with
   | zero => exact absurd HA.out (by simp [ropewayref07_Same.l0])
   | succ k1 =>
    have H := HA.out
    clear HA
    simp only [ropewayref07_Same.l0] at H
    by_cases c4 : x13_1 < (l0.length : Int)
    rotate_left
    · rw [if_neg c4] at H
      have c4b0 : decide (x13_1 < (l0.length : Int)) = false := decide_eq_false c4
      clear c4
      obtain rfl := Option.some.inj H
      go_wp2
      go_ret
      exact ⟨by first | rfl | (simp [errW_none, errW_some] <;> rfl) | (simp [*, errW_none, errW_some] <;> rfl), bel_⟩
    rw [if_pos c4] at H
    have c4b0 : decide (x13_1 < (l0.length : Int)) = true := decide_eq_true c4
    clear c4
    by_cases c5 : 0 ≤ x13_1
    rotate_left
    · rw [if_neg c5] at H
      exact absurd H (by simp)
    rw [if_pos c5] at H
    have c5b0 : decide (0 ≤ x13_1) = true := decide_eq_true c5
    clear c5
    by_cases c6 : x13_1 < (l0.length : Int)
    rotate_left
    · rw [if_neg c6] at H
      exact absurd H (by simp)
    rw [if_pos c6] at H
    have c6b0 : decide (x13_1 < (l0.length : Int)) = true := decide_eq_true c6
    clear c6
    by_cases c7 : x13_1 < (l1.length : Int)
    rotate_left
    · rw [if_neg c7] at H
      exact absurd H (by simp)
    rw [if_pos c7] at H
    have c7b0 : decide (x13_1 < (l1.length : Int)) = true := decide_eq_true c7
    clear c7
    replace H := Option.bind_eq_some_iff.mp H
    obtain ⟨t403, A80, H⟩ := H
    replace H : (if t403 = true then (ropewayref07_Same.l0 k1 l0 l1 (l0.length : Int) (wrap64 (x13_1 + 1))) else (some false)) = some r := H
    have A8 := zM A80
    clear A80
    by_cases c9 : t403 = true
    rotate_left
    · replace c9 := Bool.eq_false_iff.mpr c9
      subst c9
      have H1 : (some false) = some r := by rw [if_neg (show ¬ (false = true) by decide)] at H; exact H
      clear H
      have H := H1
      clear H1
      try go_wp2
      replace HB := zM (below_drew1 HB.out)
      have p401 : 0 ≤ (x13_1 : Int) := of_decide_eq_true (by first | (with_reducible assumption) | assumption)
      have q401 : x13_1 < (l0.length : Int) := of_decide_eq_true (by first | (with_reducible assumption) | assumption)
      obtain ⟨ad401, e401, hx401_0, hx401_1, hx401_2, hx401_3⟩ := at_T48 HR0.out x13_1 p401 q401
      have hw401_3 := hx401_3
      have hw401_2 := hx401_2
      have hw401_1 := hx401_1
      have hw401_0 := hx401_0
      cases e401
      replace hx401_0 := (HB.out.cell (World.block_lt_of_cell? w _ hx401_0)).trans hx401_0
      replace hx401_1 := (HB.out.cell (World.block_lt_of_cell? w _ hx401_1)).trans hx401_1
      replace hx401_2 := (HB.out.cell (World.block_lt_of_cell? w _ hx401_2)).trans hx401_2
      replace hx401_3 := (HB.out.cell (World.block_lt_of_cell? w _ hx401_3)).trans hx401_3
      replace p401 := eq_true p401
      replace q401 := eq_true q401
      have p402 : 0 ≤ (x13_1 : Int) := of_decide_eq_true (by first | (with_reducible assumption) | assumption)
      have q402 : x13_1 < (l1.length : Int) := of_decide_eq_true (by first | (with_reducible assumption) | assumption)
      obtain ⟨ad402, e402, hx402_0, hx402_1, hx402_2, hx402_3⟩ := at_T48 HR1.out x13_1 p402 q402
      have hw402_3 := hx402_3
      have hw402_2 := hx402_2
      have hw402_1 := hx402_1
      have hw402_0 := hx402_0
      cases e402
      replace hx402_0 := (HB.out.cell (World.block_lt_of_cell? w _ hx402_0)).trans hx402_0
      replace hx402_1 := (HB.out.cell (World.block_lt_of_cell? w _ hx402_1)).trans hx402_1
      replace hx402_2 := (HB.out.cell (World.block_lt_of_cell? w _ hx402_2)).trans hx402_2
      replace hx402_3 := (HB.out.cell (World.block_lt_of_cell? w _ hx402_3)).trans hx402_3
      replace p402 := eq_true p402
      replace q402 := eq_true q402
      refine start_ (n := 10) (S := fun w' => w'.cell? (ad401.add ((x13_1).toNat * 4)) = some (.int .i64 ((rd_T48 l0 x13_1).f0)) ∧ w'.cell? ⟨(ad401.add ((x13_1).toNat * 4)).block, (ad401.add ((x13_1).toNat * 4)).off + 1, none⟩ = some (.int .i64 ((rd_T48 l0 x13_1).f1.f0)) ∧ w'.cell? ⟨(ad401.add ((x13_1).toNat * 4)).block, (ad401.add ((x13_1).toNat * 4)).off + 2, none⟩ = some (.int .i64 ((rd_T48 l0 x13_1).f1.f1)) ∧ w'.cell? ⟨(ad401.add ((x13_1).toNat * 4)).block, (ad401.add ((x13_1).toNat * 4)).off + 3, none⟩ = some (.float .f64 ((rd_T48 l0 x13_1).f2)) ∧ w'.cell? (ad402.add ((x13_1).toNat * 4)) = some (.int .i64 ((rd_T48 l1 x13_1).f0)) ∧ w'.cell? ⟨(ad402.add ((x13_1).toNat * 4)).block, (ad402.add ((x13_1).toNat * 4)).off + 1, none⟩ = some (.int .i64 ((rd_T48 l1 x13_1).f1.f0)) ∧ w'.cell? ⟨(ad402.add ((x13_1).toNat * 4)).block, (ad402.add ((x13_1).toNat * 4)).off + 2, none⟩ = some (.int .i64 ((rd_T48 l1 x13_1).f1.f1)) ∧ w'.cell? ⟨(ad402.add ((x13_1).toNat * 4)).block, (ad402.add ((x13_1).toNat * 4)).off + 3, none⟩ = some (.float .f64 ((rd_T48 l1 x13_1).f2))) (ds := []) #[F_, F_, F_, F_, F_, F_, F_, F_, F_, F_] (by kernel_rfl) rfl rfl ⟨(hb_ HB hw401_0), (hb_ HB hw401_1), (hb_ HB hw401_2), (hb_ HB hw401_3), (hb_ HB hw402_0), (hb_ HB hw402_1), (hb_ HB hw402_2), (hb_ HB hw402_3)⟩ (fun hHeld => ?_); refine with_tabW ropewayref07_Same.tab6 ropewayref07_Same.bits6 (fun HT_ HW_ => ?_)
      generalize wr.drew = w12 at HB hx401_0 hx401_1 hx401_2 hx401_3 hx402_0 hx402_1 hx402_2 hx402_3 hHeld ⊢
      refine put_ HT_ 0 16 (dm_ 10 1) ?_
      refine put_ HT_ 1 17 (dm_ 10 3) ?_
      refine put_ HT_ 2 18 (dm_ 10 7) ?_
      refine put_ HT_ 4 20 (dm_ 10 23) ?_
      refine put_ HT_ 5 21 (dm_ 10 55) ?_
      refine put_ HT_ 6 22 (dm_ 10 119) ?_
      refine tkt_ HT_ HW_ hHeld 3 19 (dm_ 10 127) ?_
      refine tkt_ HT_ HW_ hHeld 7 23 (dm_ 10 255) ?_
      refine one_ (i := 8) (N := some 24) (dm_ 10 511) rfl rfl (one_of HT_.out (by kernel_rfl)) (by decide) (fun K hK => ?_)
      refine goes_ Try.func33 (by kernel_rfl) rfl #[.agg #[.int .i64 ((rd_T48 l0 x13_1).f0), .int .i64 ((rd_T48 l0 x13_1).f1.f0), .int .i64 ((rd_T48 l0 x13_1).f1.f1), .float .f64 ((rd_T48 l0 x13_1).f2)], .agg #[.int .i64 ((rd_T48 l1 x13_1).f0), .int .i64 ((rd_T48 l1 x13_1).f1.f0), .int .i64 ((rd_T48 l1 x13_1).f1.f1), .float .f64 ((rd_T48 l1 x13_1).f2)]] (by rfl) rfl rfl (by (try simp only [List.map_toArray, List.map_cons, List.map_nil]); first | done | rfl | (simp only [List.length_drop, List.length_take]; rfl)) ?_
      with_reducible refine (ropewayref07_Alike.calls ((rd_T48 l0 x13_1).f0) ((rd_T48 l0 x13_1).f1.f0) ((rd_T48 l0 x13_1).f1.f1) ((rd_T48 l0 x13_1).f2) ((rd_T48 l1 x13_1).f0) ((rd_T48 l1 x13_1).f1.f0) ((rd_T48 l1 x13_1).f1.f1) ((rd_T48 l1 x13_1).f2) false _ A8.out).mono ?_
      rintro e w13 ⟨rfl, hb⟩
      refine ⟨_, rfl, ?_⟩
      replace HB := zM (zB bel_ hb)
      (try clear hb)
      (try clear hb2)
      (try clear hk)
      (try clear hi)
      refine hK.out _ _ ⟨(hb_ HB hw401_0), (hb_ HB hw401_1), (hb_ HB hw401_2), (hb_ HB hw401_3), (hb_ HB hw402_0), (hb_ HB hw402_1), (hb_ HB hw402_2), (hb_ HB hw402_3)⟩ (fun hHeld => ?_)
      clear hK K
      refine norm_ (a' := ?_) ?_ ?_
      rotate_left
      · show Act.put _ (some 24) _ = _
        simp only [Act.put, zS, zZ, zC, i64_w, i32_w]
        rfl
      refine put_ HT_ 9 25 (dm_ 10 1023) ?_
      refine done_ (done_of HT_.out (by kernel_rfl)) ?_
      go_upto_region 7 with (fail)
      obtain rfl := Option.some.inj H
      go_wp2
      go_ret
      exact ⟨by first | rfl | (simp [errW_none, errW_some] <;> rfl) | (simp [*, errW_none, errW_some] <;> rfl), bel_⟩
    subst c9
    have H1 : (ropewayref07_Same.l0 k1 l0 l1 (l0.length : Int) (wrap64 (x13_1 + 1))) = some r := by rw [if_pos rfl] at H; exact H
    clear H
    have H := H1
    clear H1
    try go_wp2
    replace HB := zM (below_drew1 HB.out)
    have p401 : 0 ≤ (x13_1 : Int) := of_decide_eq_true (by first | (with_reducible assumption) | assumption)
    have q401 : x13_1 < (l0.length : Int) := of_decide_eq_true (by first | (with_reducible assumption) | assumption)
    obtain ⟨ad401, e401, hx401_0, hx401_1, hx401_2, hx401_3⟩ := at_T48 HR0.out x13_1 p401 q401
    have hw401_3 := hx401_3
    have hw401_2 := hx401_2
    have hw401_1 := hx401_1
    have hw401_0 := hx401_0
    cases e401
    replace hx401_0 := (HB.out.cell (World.block_lt_of_cell? w _ hx401_0)).trans hx401_0
    replace hx401_1 := (HB.out.cell (World.block_lt_of_cell? w _ hx401_1)).trans hx401_1
    replace hx401_2 := (HB.out.cell (World.block_lt_of_cell? w _ hx401_2)).trans hx401_2
    replace hx401_3 := (HB.out.cell (World.block_lt_of_cell? w _ hx401_3)).trans hx401_3
    replace p401 := eq_true p401
    replace q401 := eq_true q401
    have p402 : 0 ≤ (x13_1 : Int) := of_decide_eq_true (by first | (with_reducible assumption) | assumption)
    have q402 : x13_1 < (l1.length : Int) := of_decide_eq_true (by first | (with_reducible assumption) | assumption)
    obtain ⟨ad402, e402, hx402_0, hx402_1, hx402_2, hx402_3⟩ := at_T48 HR1.out x13_1 p402 q402
    have hw402_3 := hx402_3
    have hw402_2 := hx402_2
    have hw402_1 := hx402_1
    have hw402_0 := hx402_0
    cases e402
    replace hx402_0 := (HB.out.cell (World.block_lt_of_cell? w _ hx402_0)).trans hx402_0
    replace hx402_1 := (HB.out.cell (World.block_lt_of_cell? w _ hx402_1)).trans hx402_1
    replace hx402_2 := (HB.out.cell (World.block_lt_of_cell? w _ hx402_2)).trans hx402_2
    replace hx402_3 := (HB.out.cell (World.block_lt_of_cell? w _ hx402_3)).trans hx402_3
    replace p402 := eq_true p402
    replace q402 := eq_true q402
    refine start_ (n := 10) (S := fun w' => w'.cell? (ad401.add ((x13_1).toNat * 4)) = some (.int .i64 ((rd_T48 l0 x13_1).f0)) ∧ w'.cell? ⟨(ad401.add ((x13_1).toNat * 4)).block, (ad401.add ((x13_1).toNat * 4)).off + 1, none⟩ = some (.int .i64 ((rd_T48 l0 x13_1).f1.f0)) ∧ w'.cell? ⟨(ad401.add ((x13_1).toNat * 4)).block, (ad401.add ((x13_1).toNat * 4)).off + 2, none⟩ = some (.int .i64 ((rd_T48 l0 x13_1).f1.f1)) ∧ w'.cell? ⟨(ad401.add ((x13_1).toNat * 4)).block, (ad401.add ((x13_1).toNat * 4)).off + 3, none⟩ = some (.float .f64 ((rd_T48 l0 x13_1).f2)) ∧ w'.cell? (ad402.add ((x13_1).toNat * 4)) = some (.int .i64 ((rd_T48 l1 x13_1).f0)) ∧ w'.cell? ⟨(ad402.add ((x13_1).toNat * 4)).block, (ad402.add ((x13_1).toNat * 4)).off + 1, none⟩ = some (.int .i64 ((rd_T48 l1 x13_1).f1.f0)) ∧ w'.cell? ⟨(ad402.add ((x13_1).toNat * 4)).block, (ad402.add ((x13_1).toNat * 4)).off + 2, none⟩ = some (.int .i64 ((rd_T48 l1 x13_1).f1.f1)) ∧ w'.cell? ⟨(ad402.add ((x13_1).toNat * 4)).block, (ad402.add ((x13_1).toNat * 4)).off + 3, none⟩ = some (.float .f64 ((rd_T48 l1 x13_1).f2))) (ds := []) #[F_, F_, F_, F_, F_, F_, F_, F_, F_, F_] (by kernel_rfl) rfl rfl ⟨(hb_ HB hw401_0), (hb_ HB hw401_1), (hb_ HB hw401_2), (hb_ HB hw401_3), (hb_ HB hw402_0), (hb_ HB hw402_1), (hb_ HB hw402_2), (hb_ HB hw402_3)⟩ (fun hHeld => ?_); refine with_tabW ropewayref07_Same.tab6 ropewayref07_Same.bits6 (fun HT_ HW_ => ?_)
    generalize wr.drew = w10 at HB hx401_0 hx401_1 hx401_2 hx401_3 hx402_0 hx402_1 hx402_2 hx402_3 hHeld ⊢
    refine put_ HT_ 0 16 (dm_ 10 1) ?_
    refine put_ HT_ 1 17 (dm_ 10 3) ?_
    refine put_ HT_ 2 18 (dm_ 10 7) ?_
    refine put_ HT_ 4 20 (dm_ 10 23) ?_
    refine put_ HT_ 5 21 (dm_ 10 55) ?_
    refine put_ HT_ 6 22 (dm_ 10 119) ?_
    refine tkt_ HT_ HW_ hHeld 3 19 (dm_ 10 127) ?_
    refine tkt_ HT_ HW_ hHeld 7 23 (dm_ 10 255) ?_
    refine one_ (i := 8) (N := some 24) (dm_ 10 511) rfl rfl (one_of HT_.out (by kernel_rfl)) (by decide) (fun K hK => ?_)
    refine goes_ Try.func33 (by kernel_rfl) rfl #[.agg #[.int .i64 ((rd_T48 l0 x13_1).f0), .int .i64 ((rd_T48 l0 x13_1).f1.f0), .int .i64 ((rd_T48 l0 x13_1).f1.f1), .float .f64 ((rd_T48 l0 x13_1).f2)], .agg #[.int .i64 ((rd_T48 l1 x13_1).f0), .int .i64 ((rd_T48 l1 x13_1).f1.f0), .int .i64 ((rd_T48 l1 x13_1).f1.f1), .float .f64 ((rd_T48 l1 x13_1).f2)]] (by rfl) rfl rfl (by (try simp only [List.map_toArray, List.map_cons, List.map_nil]); first | done | rfl | (simp only [List.length_drop, List.length_take]; rfl)) ?_
    with_reducible refine (ropewayref07_Alike.calls ((rd_T48 l0 x13_1).f0) ((rd_T48 l0 x13_1).f1.f0) ((rd_T48 l0 x13_1).f1.f1) ((rd_T48 l0 x13_1).f2) ((rd_T48 l1 x13_1).f0) ((rd_T48 l1 x13_1).f1.f0) ((rd_T48 l1 x13_1).f1.f1) ((rd_T48 l1 x13_1).f2) true _ A8.out).mono ?_
    rintro e w11 ⟨rfl, hb⟩
    refine ⟨_, rfl, ?_⟩
    replace HB := zM (zB bel_ hb)
    (try clear hb)
    (try clear hb2)
    (try clear hk)
    (try clear hi)
    refine hK.out _ _ ⟨(hb_ HB hw401_0), (hb_ HB hw401_1), (hb_ HB hw401_2), (hb_ HB hw401_3), (hb_ HB hw402_0), (hb_ HB hw402_1), (hb_ HB hw402_2), (hb_ HB hw402_3)⟩ (fun hHeld => ?_)
    clear hK K
    refine norm_ (a' := ?_) ?_ ?_
    rotate_left
    · show Act.put _ (some 24) _ = _
      simp only [Act.put, zS, zZ, zC, i64_w, i32_w]
      rfl
    refine put_ HT_ 9 25 (dm_ 10 1023) ?_
    refine done_ (done_of HT_.out (by kernel_rfl)) ?_
    go_upto_region 8 with (fail)
    have H' := zM H
    clear H
    go_wp2
    go_roundg k1
    case measure => have := HK1.out; omega
    case rel => exact ⟨(wrap64 (x13_1 + 1)), (by first | rfl | (simp; done) | (simp [*]; done) | (simp; grind)), H', ⟨by have := HK1.out; omega⟩, ⟨bel_⟩⟩
end Go.Proofs.Ytmgiaappokkjfaa.PRoundAlone
