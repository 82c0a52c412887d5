/- Written by a program of this session (wip/tool/px.py) over the kit's print: what the code that the law RoundNames reaches computes, function by function, and the law's row. -/
import Derived.Test.YtmgiaappokkjfaaPRoundNamesx0
import Derived.Test.YtmgiaappokkjfaaPRoundNamesx2
import Derived.Test.YtmgiaappokkjfaaPRoundNamesx7
import Derived.Test.YtmgiaappokkjfaaPRoundNamesx8
import Derived.Test.YtmgiaappokkjfaaPRoundNamesx9
import Derived.Test.YtmgiaappokkjfaaPRoundNamesx10
namespace Go.Proofs.Ytmgiaappokkjfaa.PRoundNames
open Go.RowKit Go.Proofs.YtmgiaappokkjfaaX Go.Proofs.YtmgiaappokkjfaaW.PrintWords Go.Proofs.YtmgiaappokkjfaaW.PrintLast Go.Proofs.YtmgiaappokkjfaaW.PrintMore
open Go.Proofs.YtmgiaappokkjfaaW.PrintWords renaming blk_drewN → zN, blk_drew → zD, blk_alloc → zA, blk_cell → zL, below_step → zB
open Go.Proofs.YtmgiaappokkjfaaW.PrintWords.Aside0 renaming mk → zM
attribute [local go_sem] max2_int min2_int max_two min_two max_three min_three max_four min_four   -- for this text's walks alone
set_option linter.unusedVariables false
set_option linter.unusedSimpArgs false

attribute [local go_sem] px_store_float px_neg_float
attribute [local go_sem] px_eqarr67 px_nilq24 px_nilq25
/-! ### round_Round_Cells: function 18 -/
def round_Round_Cells.f (a0_0 : Int) (a0_1 : Int) (a0_2 : Int) (a0_3 : Int) (a0_4 : Int) (a0_5 : Int) (a0_6 : Int) (l0_7 : List (S43)) (l0_8 : List (S48)) (a0_9 : Bool) (a0_10 : Bool) (a0_11 : Bool) (a0_12 : Bool) (a0_13 : Bool) (a0_14 : Bool) (l0_15 : List (S43)) (l0_16 : List (S48)) : Option ((List (S43))) := (api_Cell_44.f l0_15).bind fun t385 => (some t385)
set_option maxHeartbeats 8000000 in
set_option maxRecDepth 100000 in
theorem round_Round_Cells.calls (g0_0 : Nat) (a0_0 : Int) (a0_1 : Int) (a0_2 : Int) (a0_3 : Int) (a0_4 : Int) (a0_5 : Int) (a0_6 : Int) (A0_7 : Option Addr) (c0_7 : Nat) (l0_7 : List (S43)) (A0_8 : Option Addr) (c0_8 : Nat) (l0_8 : List (S48)) (a0_9 : Bool) (a0_10 : Bool) (a0_11 : Bool) (a0_12 : Bool) (a0_13 : Bool) (a0_14 : Bool) (A0_15 : Option Addr) (c0_15 : Nat) (l0_15 : List (S43)) (A0_16 : Option Addr) (c0_16 : Nat) (l0_16 : List (S48)) (r : List (S43)) (w : World) (hr0_7 : Kd.C k43 w A0_7 l0_7.length l0_7) (hc0_7 : l0_7.length ≤ c0_7) (hr0_8 : Kd.C k48 w A0_8 l0_8.length l0_8) (hc0_8 : l0_8.length ≤ c0_8) (hr0_15 : Kd.C k43 w A0_15 l0_15.length l0_15) (hc0_15 : l0_15.length ≤ c0_15) (hr0_16 : Kd.C k48 w A0_16 l0_16.length l0_16) (hc0_16 : l0_16.length ≤ c0_16) (hb0_0 : w.heap[g0_0]? = some (.cells #[.int .i64 a0_0, .int .i64 a0_1, .int .i64 a0_2, .int .i64 a0_3, .int .i64 a0_4, .int .i64 a0_5, .int .i64 a0_6, .slice A0_7 l0_7.length c0_7, .slice A0_8 l0_8.length c0_8, .bool a0_9, .bool a0_10, .bool a0_11, .bool a0_12, .bool a0_13, .bool a0_14, .slice A0_15 l0_15.length c0_15, .slice A0_16 l0_16.length c0_16] 71 (0, 0))) (h : round_Round_Cells.f a0_0 a0_1 a0_2 a0_3 a0_4 a0_5 a0_6 l0_7 l0_8 a0_9 a0_10 a0_11 a0_12 a0_13 a0_14 l0_15 l0_16 = some r) :
    Calls Try.prog 18 #[.pointer (some ⟨g0_0, 0, none⟩)] w fun e w' => ∃ v0_ : Value, e = .returned (v0_) ∧ Kd.R k43 43 w' w.heap.size (fun _ => True) v0_ r ∧ Below w.heap.size w w' := by
  have HR0_7 := zM hr0_7
  have HC0_7 := zM hc0_7
  clear hr0_7 hc0_7
  have HR0_8 := zM hr0_8
  have HC0_8 := zM hc0_8
  clear hr0_8 hc0_8
  have HR0_15 := zM hr0_15
  have HC0_15 := zM hc0_15
  clear hr0_15 hc0_15
  have HR0_16 := zM hr0_16
  have HC0_16 := zM hc0_16
  clear hr0_16 hc0_16
  have BK40 := zM hb0_0
  clear hb0_0
  have HB := zM (Below.refl w.heap.size w)
  have H : ((api_Cell_44.f l0_15).bind fun t385 => (some t385)) = some r := h
  clear h
  replace H := Option.bind_eq_some_iff.mp H
  obtain ⟨t385, A20, H⟩ := H
  replace H : (some t385) = some r := H
  have A2 := zM A20
  clear A20
  obtain rfl := Option.some.inj H
  have hcz3_0 : w.cell? ⟨g0_0, 0, none⟩ = some (.int .i64 a0_0) := (zL BK40.out 0).trans rfl
  have hcz3_1 : w.cell? ⟨g0_0, 1, none⟩ = some (.int .i64 a0_1) := (zL BK40.out 1).trans rfl
  have hcz3_2 : w.cell? ⟨g0_0, 2, none⟩ = some (.int .i64 a0_2) := (zL BK40.out 2).trans rfl
  have hcz3_3 : w.cell? ⟨g0_0, 3, none⟩ = some (.int .i64 a0_3) := (zL BK40.out 3).trans rfl
  have hcz3_4 : w.cell? ⟨g0_0, 4, none⟩ = some (.int .i64 a0_4) := (zL BK40.out 4).trans rfl
  have hcz3_5 : w.cell? ⟨g0_0, 5, none⟩ = some (.int .i64 a0_5) := (zL BK40.out 5).trans rfl
  have hcz3_6 : w.cell? ⟨g0_0, 6, none⟩ = some (.int .i64 a0_6) := (zL BK40.out 6).trans rfl
  have hcz3_7 : w.cell? ⟨g0_0, 7, none⟩ = some (.slice A0_7 l0_7.length c0_7) := (zL BK40.out 7).trans rfl
  have hcz3_8 : w.cell? ⟨g0_0, 8, none⟩ = some (.slice A0_8 l0_8.length c0_8) := (zL BK40.out 8).trans rfl
  have hcz3_9 : w.cell? ⟨g0_0, 9, none⟩ = some (.bool a0_9) := (zL BK40.out 9).trans rfl
  have hcz3_10 : w.cell? ⟨g0_0, 10, none⟩ = some (.bool a0_10) := (zL BK40.out 10).trans rfl
  have hcz3_11 : w.cell? ⟨g0_0, 11, none⟩ = some (.bool a0_11) := (zL BK40.out 11).trans rfl
  have hcz3_12 : w.cell? ⟨g0_0, 12, none⟩ = some (.bool a0_12) := (zL BK40.out 12).trans rfl
  have hcz3_13 : w.cell? ⟨g0_0, 13, none⟩ = some (.bool a0_13) := (zL BK40.out 13).trans rfl
  have hcz3_14 : w.cell? ⟨g0_0, 14, none⟩ = some (.bool a0_14) := (zL BK40.out 14).trans rfl
  have hcz3_15 : w.cell? ⟨g0_0, 15, none⟩ = some (.slice A0_15 l0_15.length c0_15) := (zL BK40.out 15).trans rfl
  have hcz3_16 : w.cell? ⟨g0_0, 16, none⟩ = some (.slice A0_16 l0_16.length c0_16) := (zL BK40.out 16).trans rfl
  obtain ⟨hfz3_0, hfz3_1, hfz3_2, hfz3_3, hfz3_4, hfz3_5, hfz3_6, hfz3_7, hfz3_8, hfz3_9, hfz3_10, hfz3_11, hfz3_12, hfz3_13, hfz3_14, hfz3_15, hfz3_16⟩ := f17_ BK40.out
  go_enter Try.func18, Try.ntmps18
  go_wp2_with (first | ((with_reducible refine gate_callee (f := 44) rfl ?_); refine goL_ (some 7) Try.func44 #[.slice A0_15 l0_15.length c0_15] ?_; (with_reducible refine (api_Cell_44.calls _ _ l0_15 t385 _ ?side1 ?side2 A2.out).mono ?_); (case side1 => repeat (first | exact HR0_15.out | (with_reducible refine Kd.C_alloc ?_ _) | (with_reducible refine Kd.C_drewN ?_ _) | (with_reducible refine Kd.C_drew ?_))); (case side2 => exact HC0_15.out); rintro e w4 ⟨v386, rfl, ho0, hb⟩; refine ⟨_, rfl, ?_⟩; have HO387 := zM (Kd.R_lower ho0 (below_size bel_)); replace BK40 := zM (blk_below (g := g0_0) (o := .cells #[.int .i64 a0_0, .int .i64 a0_1, .int .i64 a0_2, .int .i64 a0_3, .int .i64 a0_4, .int .i64 a0_5, .int .i64 a0_6, .slice A0_7 l0_7.length c0_7, .slice A0_8 l0_8.length c0_8, .bool a0_9, .bool a0_10, .bool a0_11, .bool a0_12, .bool a0_13, .bool a0_14, .slice A0_15 l0_15.length c0_15, .slice A0_16 l0_16.length c0_16] 71 (0, 0)) blk_ hb); replace HB := zM (zB bel_ hb); (try clear hb); (try clear hb2); (try clear hk); (try clear hi); (try clear ho0)))
  go_ret
  exact ⟨_, by first | rfl | (simp [errW_none, errW_some] <;> rfl) | (simp [*, errW_none, errW_some] <;> rfl), by (with_reducible repeat (first | apply Kd.R_alloc | apply Kd.R_drewN | apply Kd.R_drew)); exact HO387.out, bel_⟩
/-! ### round_Round_Book: function 19 -/
def round_Round_Book.f (a0_0 : Int) (a0_1 : Int) (a0_2 : Int) (a0_3 : Int) (a0_4 : Int) (a0_5 : Int) (a0_6 : Int) (l0_7 : List (S43)) (l0_8 : List (S48)) (a0_9 : Bool) (a0_10 : Bool) (a0_11 : Bool) (a0_12 : Bool) (a0_13 : Bool) (a0_14 : Bool) (l0_15 : List (S43)) (l0_16 : List (S48)) : Option ((List (S48))) := (api_Entry_45.f l0_16).bind fun t388 => (some t388)
set_option maxHeartbeats 8000000 in
set_option maxRecDepth 100000 in
theorem round_Round_Book.calls (g0_0 : Nat) (a0_0 : Int) (a0_1 : Int) (a0_2 : Int) (a0_3 : Int) (a0_4 : Int) (a0_5 : Int) (a0_6 : Int) (A0_7 : Option Addr) (c0_7 : Nat) (l0_7 : List (S43)) (A0_8 : Option Addr) (c0_8 : Nat) (l0_8 : List (S48)) (a0_9 : Bool) (a0_10 : Bool) (a0_11 : Bool) (a0_12 : Bool) (a0_13 : Bool) (a0_14 : Bool) (A0_15 : Option Addr) (c0_15 : Nat) (l0_15 : List (S43)) (A0_16 : Option Addr) (c0_16 : Nat) (l0_16 : List (S48)) (r : List (S48)) (w : World) (hr0_7 : Kd.C k43 w A0_7 l0_7.length l0_7) (hc0_7 : l0_7.length ≤ c0_7) (hr0_8 : Kd.C k48 w A0_8 l0_8.length l0_8) (hc0_8 : l0_8.length ≤ c0_8) (hr0_15 : Kd.C k43 w A0_15 l0_15.length l0_15) (hc0_15 : l0_15.length ≤ c0_15) (hr0_16 : Kd.C k48 w A0_16 l0_16.length l0_16) (hc0_16 : l0_16.length ≤ c0_16) (hb0_0 : w.heap[g0_0]? = some (.cells #[.int .i64 a0_0, .int .i64 a0_1, .int .i64 a0_2, .int .i64 a0_3, .int .i64 a0_4, .int .i64 a0_5, .int .i64 a0_6, .slice A0_7 l0_7.length c0_7, .slice A0_8 l0_8.length c0_8, .bool a0_9, .bool a0_10, .bool a0_11, .bool a0_12, .bool a0_13, .bool a0_14, .slice A0_15 l0_15.length c0_15, .slice A0_16 l0_16.length c0_16] 71 (0, 0))) (h : round_Round_Book.f a0_0 a0_1 a0_2 a0_3 a0_4 a0_5 a0_6 l0_7 l0_8 a0_9 a0_10 a0_11 a0_12 a0_13 a0_14 l0_15 l0_16 = some r) :
    Calls Try.prog 19 #[.pointer (some ⟨g0_0, 0, none⟩)] w fun e w' => ∃ v0_ : Value, e = .returned (v0_) ∧ Kd.R k48 48 w' w.heap.size (fun _ => True) v0_ r ∧ Below w.heap.size w w' := by
  have HR0_7 := zM hr0_7
  have HC0_7 := zM hc0_7
  clear hr0_7 hc0_7
  have HR0_8 := zM hr0_8
  have HC0_8 := zM hc0_8
  clear hr0_8 hc0_8
  have HR0_15 := zM hr0_15
  have HC0_15 := zM hc0_15
  clear hr0_15 hc0_15
  have HR0_16 := zM hr0_16
  have HC0_16 := zM hc0_16
  clear hr0_16 hc0_16
  have BK40 := zM hb0_0
  clear hb0_0
  have HB := zM (Below.refl w.heap.size w)
  have H : ((api_Entry_45.f l0_16).bind fun t388 => (some t388)) = some r := h
  clear h
  replace H := Option.bind_eq_some_iff.mp H
  obtain ⟨t388, A20, H⟩ := H
  replace H : (some t388) = some r := H
  have A2 := zM A20
  clear A20
  obtain rfl := Option.some.inj H
  have hcz3_0 : w.cell? ⟨g0_0, 0, none⟩ = some (.int .i64 a0_0) := (zL BK40.out 0).trans rfl
  have hcz3_1 : w.cell? ⟨g0_0, 1, none⟩ = some (.int .i64 a0_1) := (zL BK40.out 1).trans rfl
  have hcz3_2 : w.cell? ⟨g0_0, 2, none⟩ = some (.int .i64 a0_2) := (zL BK40.out 2).trans rfl
  have hcz3_3 : w.cell? ⟨g0_0, 3, none⟩ = some (.int .i64 a0_3) := (zL BK40.out 3).trans rfl
  have hcz3_4 : w.cell? ⟨g0_0, 4, none⟩ = some (.int .i64 a0_4) := (zL BK40.out 4).trans rfl
  have hcz3_5 : w.cell? ⟨g0_0, 5, none⟩ = some (.int .i64 a0_5) := (zL BK40.out 5).trans rfl
  have hcz3_6 : w.cell? ⟨g0_0, 6, none⟩ = some (.int .i64 a0_6) := (zL BK40.out 6).trans rfl
  have hcz3_7 : w.cell? ⟨g0_0, 7, none⟩ = some (.slice A0_7 l0_7.length c0_7) := (zL BK40.out 7).trans rfl
  have hcz3_8 : w.cell? ⟨g0_0, 8, none⟩ = some (.slice A0_8 l0_8.length c0_8) := (zL BK40.out 8).trans rfl
  have hcz3_9 : w.cell? ⟨g0_0, 9, none⟩ = some (.bool a0_9) := (zL BK40.out 9).trans rfl
  have hcz3_10 : w.cell? ⟨g0_0, 10, none⟩ = some (.bool a0_10) := (zL BK40.out 10).trans rfl
  have hcz3_11 : w.cell? ⟨g0_0, 11, none⟩ = some (.bool a0_11) := (zL BK40.out 11).trans rfl
  have hcz3_12 : w.cell? ⟨g0_0, 12, none⟩ = some (.bool a0_12) := (zL BK40.out 12).trans rfl
  have hcz3_13 : w.cell? ⟨g0_0, 13, none⟩ = some (.bool a0_13) := (zL BK40.out 13).trans rfl
  have hcz3_14 : w.cell? ⟨g0_0, 14, none⟩ = some (.bool a0_14) := (zL BK40.out 14).trans rfl
  have hcz3_15 : w.cell? ⟨g0_0, 15, none⟩ = some (.slice A0_15 l0_15.length c0_15) := (zL BK40.out 15).trans rfl
  have hcz3_16 : w.cell? ⟨g0_0, 16, none⟩ = some (.slice A0_16 l0_16.length c0_16) := (zL BK40.out 16).trans rfl
  obtain ⟨hfz3_0, hfz3_1, hfz3_2, hfz3_3, hfz3_4, hfz3_5, hfz3_6, hfz3_7, hfz3_8, hfz3_9, hfz3_10, hfz3_11, hfz3_12, hfz3_13, hfz3_14, hfz3_15, hfz3_16⟩ := f17_ BK40.out
  go_enter Try.func19, Try.ntmps19
  go_wp2_with (first | ((with_reducible refine gate_callee (f := 45) rfl ?_); refine goL_ (some 7) Try.func45 #[.slice A0_16 l0_16.length c0_16] ?_; (with_reducible refine (api_Entry_45.calls _ _ l0_16 t388 _ ?side1 ?side2 A2.out).mono ?_); (case side1 => repeat (first | exact HR0_16.out | (with_reducible refine Kd.C_alloc ?_ _) | (with_reducible refine Kd.C_drewN ?_ _) | (with_reducible refine Kd.C_drew ?_))); (case side2 => exact HC0_16.out); rintro e w4 ⟨v389, rfl, ho0, hb⟩; refine ⟨_, rfl, ?_⟩; have HO390 := zM (Kd.R_lower ho0 (below_size bel_)); replace BK40 := zM (blk_below (g := g0_0) (o := .cells #[.int .i64 a0_0, .int .i64 a0_1, .int .i64 a0_2, .int .i64 a0_3, .int .i64 a0_4, .int .i64 a0_5, .int .i64 a0_6, .slice A0_7 l0_7.length c0_7, .slice A0_8 l0_8.length c0_8, .bool a0_9, .bool a0_10, .bool a0_11, .bool a0_12, .bool a0_13, .bool a0_14, .slice A0_15 l0_15.length c0_15, .slice A0_16 l0_16.length c0_16] 71 (0, 0)) blk_ hb); replace HB := zM (zB bel_ hb); (try clear hb); (try clear hb2); (try clear hk); (try clear hi); (try clear ho0)))
  go_ret
  exact ⟨_, by first | rfl | (simp [errW_none, errW_some] <;> rfl) | (simp [*, errW_none, errW_some] <;> rfl), by (with_reducible repeat (first | apply Kd.R_alloc | apply Kd.R_drewN | apply Kd.R_drew)); exact HO390.out, bel_⟩
/-! ### ropewaylaw14_RoundNames: function 4 -/
def ropewaylaw14_RoundNames.f (k : Nat)  : Option (Bool) := (ropewaylaw14_ask.f).bind fun bt391 => ((msg_Copy.f bt391.1 bt391.2.1 bt391.2.2.1 bt391.2.2.2.1 bt391.2.2.2.2.1 1 1 bt391.2.2.2.2.2.2.2.1 bt391.2.2.2.2.2.2.2.2).bind fun bt406 => ((ropewaylaw14_roundAlive.f k).bind fun t420 => (if t420 = true then ((round_Round_Asks.f k bt406.1 bt406.2.1 bt406.2.2.1 bt406.2.2.2.1 bt406.2.2.2.2.1 bt406.2.2.2.2.2.1 bt406.2.2.2.2.2.2.1 bt406.2.2.2.2.2.2.2.1 bt406.2.2.2.2.2.2.2.2 false false false false false false ([] : List (S43)) ([] : List (S48))).bind fun t421 => (if (t421.length : Int) = 0 then ((round_Round_Done.f k bt406.1 bt406.2.1 bt406.2.2.1 bt406.2.2.2.1 bt406.2.2.2.2.1 bt406.2.2.2.2.2.1 bt406.2.2.2.2.2.2.1 bt406.2.2.2.2.2.2.2.1 bt406.2.2.2.2.2.2.2.2 false false false false false false ([] : List (S43)) ([] : List (S48))).bind fun t424 => (if t424 = true then (some false) else ((round_Round_Who.f k bt406.1 bt406.2.1 bt406.2.2.1 bt406.2.2.2.1 bt406.2.2.2.2.1 bt406.2.2.2.2.2.1 bt406.2.2.2.2.2.2.1 bt406.2.2.2.2.2.2.2.1 bt406.2.2.2.2.2.2.2.2 false false false false false false ([] : List (S43)) ([] : List (S48))).bind fun t425 => (if (t425.length : Int) = 0 then ((round_Round_Cells.f bt406.1 bt406.2.1 bt406.2.2.1 bt406.2.2.2.1 bt406.2.2.2.2.1 bt406.2.2.2.2.2.1 bt406.2.2.2.2.2.2.1 bt406.2.2.2.2.2.2.2.1 bt406.2.2.2.2.2.2.2.2 false false false false false false ([] : List (S43)) ([] : List (S48))).bind fun t428 => (if (t428.length : Int) = 0 then ((round_Round_Book.f bt406.1 bt406.2.1 bt406.2.2.1 bt406.2.2.2.1 bt406.2.2.2.2.1 bt406.2.2.2.2.2.1 bt406.2.2.2.2.2.2.1 bt406.2.2.2.2.2.2.2.1 bt406.2.2.2.2.2.2.2.2 false false false false false false ([] : List (S43)) ([] : List (S48))).bind fun t431 => (some ((t431.length : Int) == 0))) else (some false))) else (some false))))) else (some false))) else (some false))))
theorem ropewaylaw14_RoundNames.mono : ∀ k, LeO (ropewaylaw14_RoundNames.f k ) (ropewaylaw14_RoundNames.f (k + 1) ) := by
  intro  k
  unfold ropewaylaw14_RoundNames.f
  repeat' first
      | (with_reducible exact ropewaylaw14_roundAlive.mono _)
      | (with_reducible exact round_Round_Asks.mono _ _ _ _ _ _ _ _ _ _ _ _ _ _ _ _ _ _)
      | (with_reducible exact round_Round_Done.mono _ _ _ _ _ _ _ _ _ _ _ _ _ _ _ _ _ _)
      | (with_reducible exact round_Round_Who.mono _ _ _ _ _ _ _ _ _ _ _ _ _ _ _ _ _ _)
      | (with_reducible exact LeO.refl _)
      | (with_reducible exact LeO.none _)
      | (with_reducible refine LeO.ite ?_ ?_)
      | (with_reducible refine LeO.bind ?_ (fun _ => ?_))
      | exact ropewaylaw14_roundAlive.mono _
      | exact round_Round_Asks.mono _ _ _ _ _ _ _ _ _ _ _ _ _ _ _ _ _ _
      | exact round_Round_Done.mono _ _ _ _ _ _ _ _ _ _ _ _ _ _ _ _ _ _
      | exact round_Round_Who.mono _ _ _ _ _ _ _ _ _ _ _ _ _ _ _ _ _ _
      | exact LeO.none _
      | refine LeO.ite ?_ ?_
      | refine LeO.bind ?_ (fun _ => ?_)
set_option maxHeartbeats 8000000 in
set_option maxRecDepth 100000 in
theorem ropewaylaw14_RoundNames.calls (k : Nat)  (r : Bool) (w : World) (hr1_ : Aside0 (r = true)) (h : ropewaylaw14_RoundNames.f k  = some r) :
    Calls Try.prog 4 #[] w fun e w' => e = .returned (.bool r) ∧ Below w.heap.size w w' := by
  have hu27 := Try.underlying27
  have hu23 := Try.underlying23
  have HB := zM (Below.refl w.heap.size w)
  have H : ((ropewaylaw14_ask.f).bind fun bt391 => ((msg_Copy.f bt391.1 bt391.2.1 bt391.2.2.1 bt391.2.2.2.1 bt391.2.2.2.2.1 1 1 bt391.2.2.2.2.2.2.2.1 bt391.2.2.2.2.2.2.2.2).bind fun bt406 => ((ropewaylaw14_roundAlive.f k).bind fun t420 => (if t420 = true then ((round_Round_Asks.f k bt406.1 bt406.2.1 bt406.2.2.1 bt406.2.2.2.1 bt406.2.2.2.2.1 bt406.2.2.2.2.2.1 bt406.2.2.2.2.2.2.1 bt406.2.2.2.2.2.2.2.1 bt406.2.2.2.2.2.2.2.2 false false false false false false ([] : List (S43)) ([] : List (S48))).bind fun t421 => (if (t421.length : Int) = 0 then ((round_Round_Done.f k bt406.1 bt406.2.1 bt406.2.2.1 bt406.2.2.2.1 bt406.2.2.2.2.1 bt406.2.2.2.2.2.1 bt406.2.2.2.2.2.2.1 bt406.2.2.2.2.2.2.2.1 bt406.2.2.2.2.2.2.2.2 false false false false false false ([] : List (S43)) ([] : List (S48))).bind fun t424 => (if t424 = true then (some false) else ((round_Round_Who.f k bt406.1 bt406.2.1 bt406.2.2.1 bt406.2.2.2.1 bt406.2.2.2.2.1 bt406.2.2.2.2.2.1 bt406.2.2.2.2.2.2.1 bt406.2.2.2.2.2.2.2.1 bt406.2.2.2.2.2.2.2.2 false false false false false false ([] : List (S43)) ([] : List (S48))).bind fun t425 => (if (t425.length : Int) = 0 then ((round_Round_Cells.f bt406.1 bt406.2.1 bt406.2.2.1 bt406.2.2.2.1 bt406.2.2.2.2.1 bt406.2.2.2.2.2.1 bt406.2.2.2.2.2.2.1 bt406.2.2.2.2.2.2.2.1 bt406.2.2.2.2.2.2.2.2 false false false false false false ([] : List (S43)) ([] : List (S48))).bind fun t428 => (if (t428.length : Int) = 0 then ((round_Round_Book.f bt406.1 bt406.2.1 bt406.2.2.1 bt406.2.2.2.1 bt406.2.2.2.2.1 bt406.2.2.2.2.2.1 bt406.2.2.2.2.2.2.1 bt406.2.2.2.2.2.2.2.1 bt406.2.2.2.2.2.2.2.2 false false false false false false ([] : List (S43)) ([] : List (S48))).bind fun t431 => (some ((t431.length : Int) == 0))) else (some false))) else (some false))))) else (some false))) else (some false))))) = some r := h
  clear h
  replace H := Option.bind_eq_some_iff.mp H
  obtain ⟨⟨t391, t392, t393, t394, t395, t396, t397, t398, t401⟩, A10, H⟩ := H
  replace H : ((msg_Copy.f t391 t392 t393 t394 t395 1 1 t398 t401).bind fun bt406 => ((ropewaylaw14_roundAlive.f k).bind fun t420 => (if t420 = true then ((round_Round_Asks.f k bt406.1 bt406.2.1 bt406.2.2.1 bt406.2.2.2.1 bt406.2.2.2.2.1 bt406.2.2.2.2.2.1 bt406.2.2.2.2.2.2.1 bt406.2.2.2.2.2.2.2.1 bt406.2.2.2.2.2.2.2.2 false false false false false false ([] : List (S43)) ([] : List (S48))).bind fun t421 => (if (t421.length : Int) = 0 then ((round_Round_Done.f k bt406.1 bt406.2.1 bt406.2.2.1 bt406.2.2.2.1 bt406.2.2.2.2.1 bt406.2.2.2.2.2.1 bt406.2.2.2.2.2.2.1 bt406.2.2.2.2.2.2.2.1 bt406.2.2.2.2.2.2.2.2 false false false false false false ([] : List (S43)) ([] : List (S48))).bind fun t424 => (if t424 = true then (some false) else ((round_Round_Who.f k bt406.1 bt406.2.1 bt406.2.2.1 bt406.2.2.2.1 bt406.2.2.2.2.1 bt406.2.2.2.2.2.1 bt406.2.2.2.2.2.2.1 bt406.2.2.2.2.2.2.2.1 bt406.2.2.2.2.2.2.2.2 false false false false false false ([] : List (S43)) ([] : List (S48))).bind fun t425 => (if (t425.length : Int) = 0 then ((round_Round_Cells.f bt406.1 bt406.2.1 bt406.2.2.1 bt406.2.2.2.1 bt406.2.2.2.2.1 bt406.2.2.2.2.2.1 bt406.2.2.2.2.2.2.1 bt406.2.2.2.2.2.2.2.1 bt406.2.2.2.2.2.2.2.2 false false false false false false ([] : List (S43)) ([] : List (S48))).bind fun t428 => (if (t428.length : Int) = 0 then ((round_Round_Book.f bt406.1 bt406.2.1 bt406.2.2.1 bt406.2.2.2.1 bt406.2.2.2.2.1 bt406.2.2.2.2.2.1 bt406.2.2.2.2.2.2.1 bt406.2.2.2.2.2.2.2.1 bt406.2.2.2.2.2.2.2.2 false false false false false false ([] : List (S43)) ([] : List (S48))).bind fun t431 => (some ((t431.length : Int) == 0))) else (some false))) else (some false))))) else (some false))) else (some false)))) = some r := H
  have A1 := zM A10
  clear A10
  go_enter Try.func4, Try.ntmps4
  have tk3 : True := trivial
  have tk5 : True := trivial
  have tk10 : True := trivial
  go_upto_region 2 with (first | ((with_reducible refine gate_callee (f := 17) rfl ?_); clear tk3; refine goL_ (some 3) Try.func17 #[] ?_; (with_reducible refine (ropewaylaw14_ask.calls  t391 t392 t393 t394 t395 t396 t397 t398 t401 _ A1.out).mono ?_); rintro e w2 ⟨v399, v402, rfl, ho0, ho1, hb⟩; refine ⟨_, rfl, ?_⟩; have HO400 := zM (Kd.R_lower ho0 (below_size bel_)); have HO403 := zM (Kd.R_lower ho1 (below_size bel_)); replace HB := zM (zB bel_ hb); (try clear hb); (try clear ho0); (try clear ho1)) | ((with_reducible refine gate_dst (N := 1) rfl ?_); clear tk5; (try (refine gate_guard (by rfl) ?_; dsimp only)); refine box_event ?hg (N := 1) ?hd (cs := #[.int .i64 0, .int .i64 0, .int .i64 0, .int .i64 0, .int .i64 0, .int .i64 0, .int .i64 0, .slice none 0 0, .slice none 0 0]) (t := 27) ?hr ?_; (case hd => rfl); (case hg => rfl); (case hr => first | (go_simp; done) | (go_simp; rfl)); intro gb404 hg w4 hbox hb; replace HO400 := zM (Kd.R_below (rl_ HO400) hb); replace HO403 := zM (Kd.R_below (rl_ HO403) hb); have BK404 := zM (hbox); have GW404 := zM (bs_ hg); have GE404 := zM (bs_ hg); replace HB := zM (zB bel_ hb); clear hb hbox hg; obtain ⟨hcz6_0, hcz6_1, hcz6_2, hcz6_3, hcz6_4, hcz6_5, hcz6_6, hcz6_7, hcz6_8⟩ := r9_ BK404.out; obtain ⟨hfz6_0, hfz6_1, hfz6_2, hfz6_3, hfz6_4, hfz6_5, hfz6_6, hfz6_7, hfz6_8⟩ := f9_ BK404.out; obtain ⟨Ao7, co7, eo7⟩ := Kd.R_slice HO400.out; subst eo7; obtain ⟨Ao8, co8, eo8⟩ := Kd.R_slice HO403.out; subst eo8) | ((with_reducible refine gate_store (t := 27) (p := 1) rfl ?_); clear tk10; refine store_event (t := 27) (p := 1) (v := ?vo_w9) (w1 := (((((((((w4.setCell ⟨gb404, 0, none⟩ (.int .i64 t391)).setCell ⟨gb404, 1, none⟩ (.int .i64 t392)).setCell ⟨gb404, 2, none⟩ (.int .i64 t393)).setCell ⟨gb404, 3, none⟩ (.int .i64 t394)).setCell ⟨gb404, 4, none⟩ (.int .i64 t395)).setCell ⟨gb404, 5, none⟩ (.int .i64 t396)).setCell ⟨gb404, 6, none⟩ (.int .i64 t397)).setCell ⟨gb404, 7, none⟩ (.slice Ao7 t398.length co7)).setCell ⟨gb404, 8, none⟩ (.slice Ao8 t401.length co8))) ?hg ?ho ?hn ?hr ?_; (case ho => rfl); (case hg => rfl); (case hn => rfl); (case hr => first | (go_simp; done) | (go_simp; rfl)); intro w9 hw; replace HO400 : Aside0 (Kd.R k43 43 w9 w.heap.size (fun _ => True) (.slice Ao7 t398.length co7) t398) := ⟨(by rw [hw]; exact (by (with_reducible repeat (first | apply Kd.R_alloc | apply Kd.R_drewN | apply Kd.R_drew)); exact Kd.R_mono (Kd.R_far (p := ⟨gb404, 8, none⟩) (Kd.R_far (p := ⟨gb404, 7, none⟩) (Kd.R_far (p := ⟨gb404, 6, none⟩) (Kd.R_far (p := ⟨gb404, 5, none⟩) (Kd.R_far (p := ⟨gb404, 4, none⟩) (Kd.R_far (p := ⟨gb404, 3, none⟩) (Kd.R_far (p := ⟨gb404, 2, none⟩) (Kd.R_far (p := ⟨gb404, 1, none⟩) (Kd.R_far (p := ⟨gb404, 0, none⟩) (Kd.R_types HO400.out BK404.out (by decide)) (fun _ hk => hk.2) (.int .i64 t391)) (fun _ hk => hk.2) (.int .i64 t392)) (fun _ hk => hk.2) (.int .i64 t393)) (fun _ hk => hk.2) (.int .i64 t394)) (fun _ hk => hk.2) (.int .i64 t395)) (fun _ hk => hk.2) (.int .i64 t396)) (fun _ hk => hk.2) (.int .i64 t397)) (fun _ hk => hk.2) (.slice Ao7 t398.length co7)) (fun _ hk => hk.2) (.slice Ao8 t401.length co8)) (fun _ hk => trivial)))⟩; replace HO403 : Aside0 (Kd.R k48 48 w9 w.heap.size (fun _ => True) (.slice Ao8 t401.length co8) t401) := ⟨(by rw [hw]; exact (by (with_reducible repeat (first | apply Kd.R_alloc | apply Kd.R_drewN | apply Kd.R_drew)); exact Kd.R_mono (Kd.R_far (p := ⟨gb404, 8, none⟩) (Kd.R_far (p := ⟨gb404, 7, none⟩) (Kd.R_far (p := ⟨gb404, 6, none⟩) (Kd.R_far (p := ⟨gb404, 5, none⟩) (Kd.R_far (p := ⟨gb404, 4, none⟩) (Kd.R_far (p := ⟨gb404, 3, none⟩) (Kd.R_far (p := ⟨gb404, 2, none⟩) (Kd.R_far (p := ⟨gb404, 1, none⟩) (Kd.R_far (p := ⟨gb404, 0, none⟩) (Kd.R_types HO403.out BK404.out (by decide)) (fun _ hk => hk.2) (.int .i64 t391)) (fun _ hk => hk.2) (.int .i64 t392)) (fun _ hk => hk.2) (.int .i64 t393)) (fun _ hk => hk.2) (.int .i64 t394)) (fun _ hk => hk.2) (.int .i64 t395)) (fun _ hk => hk.2) (.int .i64 t396)) (fun _ hk => hk.2) (.int .i64 t397)) (fun _ hk => hk.2) (.slice Ao7 t398.length co7)) (fun _ hk => hk.2) (.slice Ao8 t401.length co8)) (fun _ hk => trivial)))⟩; replace BK404 : Aside0 (w9.heap[gb404]? = some (.cells #[.int .i64 t391, .int .i64 t392, .int .i64 t393, .int .i64 t394, .int .i64 t395, .int .i64 t396, .int .i64 t397, .slice Ao7 t398.length co7, .slice Ao8 t401.length co8] 27 (0, 0))) := ⟨(by rw [hw]; exact (by (with_reducible repeat (first | refine zN ?_ _ | refine zD ?_ | refine zA ?_ _)); exact fx9_ BK404))⟩; replace HB : Aside0 (Below w.heap.size w w9) := ⟨(by rw [hw]; exact bel_)⟩; clear hw))
  try clear hcz6_0
  try clear hcz6_1
  try clear hcz6_2
  try clear hcz6_3
  try clear hcz6_4
  try clear hcz6_5
  try clear hcz6_6
  try clear hcz6_7
  try clear hcz6_8
  try clear hfz6_0
  try clear hfz6_1
  try clear hfz6_2
  try clear hfz6_3
  try clear hfz6_4
  try clear hfz6_5
  try clear hfz6_6
  try clear hfz6_7
  try clear hfz6_8
  obtain ⟨hcz11_0, hcz11_1, hcz11_2, hcz11_3, hcz11_4, hcz11_5, hcz11_6, hcz11_7, hcz11_8⟩ := r9_ BK404.out
  obtain ⟨hfz11_0, hfz11_1, hfz11_2, hfz11_3, hfz11_4, hfz11_5, hfz11_6, hfz11_7, hfz11_8⟩ := f9_ BK404.out
  have tk13 : True := trivial
  go_upto_region 3 with (first | ((with_reducible refine gate_store (t := 23) (p := 5) rfl ?_); clear tk13; refine store_event (t := 23) (p := 5) (v := ?vo_w12) (w1 := ((w9.setCell ⟨gb404, 5, none⟩ (.int .i64 1)).setCell ⟨gb404, 6, none⟩ (.int .i64 1))) ?hg ?ho ?hn ?hr ?_; (case ho => rfl); (case hg => rfl); (case hn => rfl); (case hr => first | (go_simp; done) | (go_simp; rfl)); intro w12 hw; replace HO400 : Aside0 (Kd.R k43 43 w12 w.heap.size (fun _ => True) (.slice Ao7 t398.length co7) t398) := ⟨(by rw [hw]; exact (by (with_reducible repeat (first | apply Kd.R_alloc | apply Kd.R_drewN | apply Kd.R_drew)); exact Kd.R_mono (Kd.R_far (p := ⟨gb404, 6, none⟩) (Kd.R_far (p := ⟨gb404, 5, none⟩) (Kd.R_types HO400.out BK404.out (by decide)) (fun _ hk => hk.2) (.int .i64 1)) (fun _ hk => hk.2) (.int .i64 1)) (fun _ hk => trivial)))⟩; replace HO403 : Aside0 (Kd.R k48 48 w12 w.heap.size (fun _ => True) (.slice Ao8 t401.length co8) t401) := ⟨(by rw [hw]; exact (by (with_reducible repeat (first | apply Kd.R_alloc | apply Kd.R_drewN | apply Kd.R_drew)); exact Kd.R_mono (Kd.R_far (p := ⟨gb404, 6, none⟩) (Kd.R_far (p := ⟨gb404, 5, none⟩) (Kd.R_types HO403.out BK404.out (by decide)) (fun _ hk => hk.2) (.int .i64 1)) (fun _ hk => hk.2) (.int .i64 1)) (fun _ hk => trivial)))⟩; replace BK404 : Aside0 (w12.heap[gb404]? = some (.cells #[.int .i64 t391, .int .i64 t392, .int .i64 t393, .int .i64 t394, .int .i64 t395, .int .i64 1, .int .i64 1, .slice Ao7 t398.length co7, .slice Ao8 t401.length co8] 27 (0, 0))) := ⟨(by rw [hw]; exact (by (with_reducible repeat (first | refine zN ?_ _ | refine zD ?_ | refine zA ?_ _)); refine blk_put (cs := #[.int .i64 t391, .int .i64 t392, .int .i64 t393, .int .i64 t394, .int .i64 t395, .int .i64 1, .int .i64 t397, .slice Ao7 t398.length co7, .slice Ao8 t401.length co8]) ?_ 6 _ rfl; (with_reducible repeat (first | refine zN ?_ _ | refine zD ?_ | refine zA ?_ _)); refine blk_put (cs := #[.int .i64 t391, .int .i64 t392, .int .i64 t393, .int .i64 t394, .int .i64 t395, .int .i64 t396, .int .i64 t397, .slice Ao7 t398.length co7, .slice Ao8 t401.length co8]) ?_ 5 _ rfl; (with_reducible repeat (first | refine zN ?_ _ | refine zD ?_ | refine zA ?_ _)); exact BK404.out))⟩; replace HB : Aside0 (Below w.heap.size w w12) := ⟨(by rw [hw]; exact bel_)⟩; clear hw))
  replace H := Option.bind_eq_some_iff.mp H
  obtain ⟨⟨t406, t407, t408, t409, t410, t411, t412, t413, t416⟩, A140, H⟩ := H
  replace H : ((ropewaylaw14_roundAlive.f k).bind fun t420 => (if t420 = true then ((round_Round_Asks.f k t406 t407 t408 t409 t410 t411 t412 t413 t416 false false false false false false ([] : List (S43)) ([] : List (S48))).bind fun t421 => (if (t421.length : Int) = 0 then ((round_Round_Done.f k t406 t407 t408 t409 t410 t411 t412 t413 t416 false false false false false false ([] : List (S43)) ([] : List (S48))).bind fun t424 => (if t424 = true then (some false) else ((round_Round_Who.f k t406 t407 t408 t409 t410 t411 t412 t413 t416 false false false false false false ([] : List (S43)) ([] : List (S48))).bind fun t425 => (if (t425.length : Int) = 0 then ((round_Round_Cells.f t406 t407 t408 t409 t410 t411 t412 t413 t416 false false false false false false ([] : List (S43)) ([] : List (S48))).bind fun t428 => (if (t428.length : Int) = 0 then ((round_Round_Book.f t406 t407 t408 t409 t410 t411 t412 t413 t416 false false false false false false ([] : List (S43)) ([] : List (S48))).bind fun t431 => (some ((t431.length : Int) == 0))) else (some false))) else (some false))))) else (some false))) else (some false))) = some r := H
  have A14 := zM A140
  clear A140
  obtain ⟨hcz15_0, hcz15_1, hcz15_2, hcz15_3, hcz15_4, hcz15_5, hcz15_6, hcz15_7, hcz15_8⟩ := r9_ BK404.out
  obtain ⟨hfz15_0, hfz15_1, hfz15_2, hfz15_3, hfz15_4, hfz15_5, hfz15_6, hfz15_7, hfz15_8⟩ := f9_ BK404.out
  have tk16 : True := trivial
  have tk18 : True := trivial
  have tk22 : True := trivial
  have tk26 : True := trivial
  have tk27 : True := trivial
  go_upto_region 4 with (first | ((with_reducible refine gate_callee (f := 11) rfl ?_); clear tk16; refine goL_ (some 7) Try.func11 #[.agg #[.int .i64 t391, .int .i64 t392, .int .i64 t393, .int .i64 t394, .int .i64 t395, .int .i64 1, .int .i64 1, .slice Ao7 t398.length co7, .slice Ao8 t401.length co8]] ?_; go_enter Try.func11, Try.ntmps11) | ((with_reducible refine gate_dst (N := 1) rfl ?_); clear tk18; (try (refine gate_guard (by rfl) ?_; dsimp only)); refine box_event ?hg (N := 1) ?hd (cs := #[.int .i64 t391, .int .i64 t392, .int .i64 t393, .int .i64 t394, .int .i64 t395, .int .i64 1, .int .i64 1, .slice Ao7 t398.length co7, .slice Ao8 t401.length co8]) (t := 27) ?hr ?_; (case hd => rfl); (case hg => rfl); (case hr => first | (go_simp; done) | (go_simp; rfl)); intro gb405 hg w17 hbox hb; replace HO400 := zM (Kd.R_below (rl_ HO400) hb); replace HO403 := zM (Kd.R_below (rl_ HO403) hb); have BK405 := zM (hbox); have GW405 := zM (bs_ hg); have GE405 := zM (bs_ hg); replace HB := zM (zB bel_ hb); have NB404_405 := zM (nl_ BK404 hg); have NB405_404 := zM (ng_ BK404 hg); replace BK404 := zM (bb_ BK404 hb); clear hb hbox hg; have hnb19 := NB405_404.out; have hnc19 := NB404_405.out; obtain ⟨hcz20_0, hcz20_1, hcz20_2, hcz20_3, hcz20_4, hcz20_5, hcz20_6, hcz20_7, hcz20_8⟩ := r9_ BK405.out; obtain ⟨hfz20_0, hfz20_1, hfz20_2, hfz20_3, hfz20_4, hfz20_5, hfz20_6, hfz20_7, hfz20_8⟩ := f9_ BK405.out) | ((with_reducible refine gate_callee (f := 39) rfl ?_); clear tk22; refine goL_ (some 4) Try.func39 #[.agg #[.int .i64 t391, .int .i64 t392, .int .i64 t393, .int .i64 t394, .int .i64 t395, .int .i64 1, .int .i64 1, .slice Ao7 t398.length co7, .slice Ao8 t401.length co8]] ?_; (with_reducible refine (msg_Copy.calls t391 t392 t393 t394 t395 1 1 _ _ t398 _ _ t401 t406 t407 t408 t409 t410 t411 t412 t413 t416 _ ?side1 ?side2 ?side3 ?side4 A14.out).mono ?_); (case side1 => repeat (first | exact (Kd.R_reads' HO400.out).2.2 | (with_reducible refine Kd.C_alloc ?_ _) | (with_reducible refine Kd.C_drewN ?_ _) | (with_reducible refine Kd.C_drew ?_))); (case side2 => exact (Kd.R_reads' HO400.out).2.1); (case side3 => repeat (first | exact (Kd.R_reads' HO403.out).2.2 | (with_reducible refine Kd.C_alloc ?_ _) | (with_reducible refine Kd.C_drewN ?_ _) | (with_reducible refine Kd.C_drew ?_))); (case side4 => exact (Kd.R_reads' HO403.out).2.1); rintro e w21 ⟨v414, v417, rfl, ho0, ho1, hb⟩; refine ⟨_, rfl, ?_⟩; have HO415 := zM (Kd.R_lower (Kd.R_new' ho0 (Kd.R_lt (rl_ HO400))) (below_size bel_)); replace HO400 := zM (Kd.R_elder' (rl_ HO400) (Kd.R_base ho0) hb); have HO418 := zM (Kd.R_lower (Kd.R_new' ho1 (Kd.R_lt (rl_ HO403))) (below_size bel_)); replace HO403 := zM (Kd.R_elder' (rl_ HO403) (Kd.R_base ho1) hb); replace BK404 := zM (bb_ BK404 hb); replace BK405 := zM (bb_ BK405 hb); replace HB := zM (zB bel_ hb); (try clear hb); (try clear ho0); (try clear ho1); obtain ⟨Ao23, co23, eo23⟩ := Kd.R_slice HO418.out; subst eo23; obtain ⟨Ao24, co24, eo24⟩ := Kd.R_slice HO415.out; subst eo24) | ((with_reducible refine gate_dst (N := 6) rfl ?_); clear tk26; (try (refine gate_guard (by rfl) ?_; dsimp only)); refine box_event ?hg (N := 6) ?hd (cs := #[.int .i64 t406, .int .i64 t407, .int .i64 t408, .int .i64 t409, .int .i64 t410, .int .i64 t411, .int .i64 t412, .slice Ao24 t413.length co24, .slice Ao23 t416.length co23, .bool false, .bool false, .bool false, .bool false, .bool false, .bool false, .slice none 0 0, .slice none 0 0]) (t := 71) ?hr ?_; (case hd => rfl); (case hg => rfl); (case hr => first | (go_simp; done) | (go_simp; rfl)); intro gb419 hg w25 hbox hb; replace HO400 := zM (Kd.R_below (rl_ HO400) hb); replace HO403 := zM (Kd.R_below (rl_ HO403) hb); replace HO415 := zM (Kd.R_below (rl_ HO415) hb); replace HO418 := zM (Kd.R_below (rl_ HO418) hb); have BK419 := zM (hbox); have GW419 := zM (bs_ hg); have GE419 := zM (bs_ hg); replace HB := zM (zB bel_ hb); have NB404_419 := zM (nl_ BK404 hg); have NB419_404 := zM (ng_ BK404 hg); replace BK404 := zM (bb_ BK404 hb); have NB405_419 := zM (nl_ BK405 hg); have NB419_405 := zM (ng_ BK405 hg); replace BK405 := zM (bb_ BK405 hb); clear hb hbox hg) | (clear tk27; (first | go_ret | go_ret2 | go_ret3 | go_end0); with_reducible refine inl_back_ ?_))
  try clear hcz20_0
  try clear hcz20_1
  try clear hcz20_2
  try clear hcz20_3
  try clear hcz20_4
  try clear hcz20_5
  try clear hcz20_6
  try clear hcz20_7
  try clear hcz20_8
  try clear hfz20_0
  try clear hfz20_1
  try clear hfz20_2
  try clear hfz20_3
  try clear hfz20_4
  try clear hfz20_5
  try clear hfz20_6
  try clear hfz20_7
  try clear hfz20_8
  try clear hnb19
  try clear hnc19
  replace H := Option.bind_eq_some_iff.mp H
  obtain ⟨t420, A280, H⟩ := H
  replace H : (if t420 = true then ((round_Round_Asks.f k t406 t407 t408 t409 t410 t411 t412 t413 t416 false false false false false false ([] : List (S43)) ([] : List (S48))).bind fun t421 => (if (t421.length : Int) = 0 then ((round_Round_Done.f k t406 t407 t408 t409 t410 t411 t412 t413 t416 false false false false false false ([] : List (S43)) ([] : List (S48))).bind fun t424 => (if t424 = true then (some false) else ((round_Round_Who.f k t406 t407 t408 t409 t410 t411 t412 t413 t416 false false false false false false ([] : List (S43)) ([] : List (S48))).bind fun t425 => (if (t425.length : Int) = 0 then ((round_Round_Cells.f t406 t407 t408 t409 t410 t411 t412 t413 t416 false false false false false false ([] : List (S43)) ([] : List (S48))).bind fun t428 => (if (t428.length : Int) = 0 then ((round_Round_Book.f t406 t407 t408 t409 t410 t411 t412 t413 t416 false false false false false false ([] : List (S43)) ([] : List (S48))).bind fun t431 => (some ((t431.length : Int) == 0))) else (some false))) else (some false))))) else (some false))) else (some false)) = some r := H
  have A28 := zM A280
  clear A280
  by_cases c29 : t420 = true
  rotate_left
  · replace c29 := Bool.eq_false_iff.mpr c29
    subst c29
    have H1 : (some false) = some r := by rw [if_neg (show ¬ (false = true) by decide)] at H; exact H
    clear H
    have H := H1
    clear H1
    exact absurd (Option.some.inj H) (by rw [hr1_.out]; decide)
  subst c29
  have H1 : ((round_Round_Asks.f k t406 t407 t408 t409 t410 t411 t412 t413 t416 false false false false false false ([] : List (S43)) ([] : List (S48))).bind fun t421 => (if (t421.length : Int) = 0 then ((round_Round_Done.f k t406 t407 t408 t409 t410 t411 t412 t413 t416 false false false false false false ([] : List (S43)) ([] : List (S48))).bind fun t424 => (if t424 = true then (some false) else ((round_Round_Who.f k t406 t407 t408 t409 t410 t411 t412 t413 t416 false false false false false false ([] : List (S43)) ([] : List (S48))).bind fun t425 => (if (t425.length : Int) = 0 then ((round_Round_Cells.f t406 t407 t408 t409 t410 t411 t412 t413 t416 false false false false false false ([] : List (S43)) ([] : List (S48))).bind fun t428 => (if (t428.length : Int) = 0 then ((round_Round_Book.f t406 t407 t408 t409 t410 t411 t412 t413 t416 false false false false false false ([] : List (S43)) ([] : List (S48))).bind fun t431 => (some ((t431.length : Int) == 0))) else (some false))) else (some false))))) else (some false))) = some r := by rw [if_pos rfl] at H; exact H
  clear H
  have H := H1
  clear H1
  replace H := Option.bind_eq_some_iff.mp H
  obtain ⟨t421, A300, H⟩ := H
  replace H : (if (t421.length : Int) = 0 then ((round_Round_Done.f k t406 t407 t408 t409 t410 t411 t412 t413 t416 false false false false false false ([] : List (S43)) ([] : List (S48))).bind fun t424 => (if t424 = true then (some false) else ((round_Round_Who.f k t406 t407 t408 t409 t410 t411 t412 t413 t416 false false false false false false ([] : List (S43)) ([] : List (S48))).bind fun t425 => (if (t425.length : Int) = 0 then ((round_Round_Cells.f t406 t407 t408 t409 t410 t411 t412 t413 t416 false false false false false false ([] : List (S43)) ([] : List (S48))).bind fun t428 => (if (t428.length : Int) = 0 then ((round_Round_Book.f t406 t407 t408 t409 t410 t411 t412 t413 t416 false false false false false false ([] : List (S43)) ([] : List (S48))).bind fun t431 => (some ((t431.length : Int) == 0))) else (some false))) else (some false))))) else (some false)) = some r := H
  have A30 := zM A300
  clear A300
  by_cases c31 : (t421.length : Int) = 0
  rotate_left
  · rw [if_neg c31] at H
    have c31b0 : ((t421.length : Int) == 0) = false := beq_eq_false_iff_ne.mpr c31
    have c31b1 : ((t421.length : Int) != 0) = true := bne_iff_ne.mpr c31
    have c31b2 : ¬ (t421 = []) := fun h_ => c31 (by rw [h_]; rfl)
    exact absurd (Option.some.inj H) (by rw [hr1_.out]; decide)
  rw [if_pos c31] at H
  have c31b0 : ((t421.length : Int) == 0) = true := beq_iff_eq.mpr c31
  have c31b1 : ((t421.length : Int) != 0) = false := bne_eq_false_iff_eq.mpr c31
  clear c31
  replace H := Option.bind_eq_some_iff.mp H
  obtain ⟨t424, A320, H⟩ := H
  replace H : (if t424 = true then (some false) else ((round_Round_Who.f k t406 t407 t408 t409 t410 t411 t412 t413 t416 false false false false false false ([] : List (S43)) ([] : List (S48))).bind fun t425 => (if (t425.length : Int) = 0 then ((round_Round_Cells.f t406 t407 t408 t409 t410 t411 t412 t413 t416 false false false false false false ([] : List (S43)) ([] : List (S48))).bind fun t428 => (if (t428.length : Int) = 0 then ((round_Round_Book.f t406 t407 t408 t409 t410 t411 t412 t413 t416 false false false false false false ([] : List (S43)) ([] : List (S48))).bind fun t431 => (some ((t431.length : Int) == 0))) else (some false))) else (some false)))) = some r := H
  have A32 := zM A320
  clear A320
  by_cases c33 : t424 = true
  · subst c33
    have H1 : (some false) = some r := by rw [if_pos rfl] at H; exact H
    clear H
    have H := H1
    clear H1
    exact absurd (Option.some.inj H) (by rw [hr1_.out]; decide)
  replace c33 := Bool.eq_false_iff.mpr c33
  subst c33
  have H1 : ((round_Round_Who.f k t406 t407 t408 t409 t410 t411 t412 t413 t416 false false false false false false ([] : List (S43)) ([] : List (S48))).bind fun t425 => (if (t425.length : Int) = 0 then ((round_Round_Cells.f t406 t407 t408 t409 t410 t411 t412 t413 t416 false false false false false false ([] : List (S43)) ([] : List (S48))).bind fun t428 => (if (t428.length : Int) = 0 then ((round_Round_Book.f t406 t407 t408 t409 t410 t411 t412 t413 t416 false false false false false false ([] : List (S43)) ([] : List (S48))).bind fun t431 => (some ((t431.length : Int) == 0))) else (some false))) else (some false))) = some r := by rw [if_neg (show ¬ (false = true) by decide)] at H; exact H
  clear H
  have H := H1
  clear H1
  replace H := Option.bind_eq_some_iff.mp H
  obtain ⟨t425, A340, H⟩ := H
  replace H : (if (t425.length : Int) = 0 then ((round_Round_Cells.f t406 t407 t408 t409 t410 t411 t412 t413 t416 false false false false false false ([] : List (S43)) ([] : List (S48))).bind fun t428 => (if (t428.length : Int) = 0 then ((round_Round_Book.f t406 t407 t408 t409 t410 t411 t412 t413 t416 false false false false false false ([] : List (S43)) ([] : List (S48))).bind fun t431 => (some ((t431.length : Int) == 0))) else (some false))) else (some false)) = some r := H
  have A34 := zM A340
  clear A340
  by_cases c35 : (t425.length : Int) = 0
  rotate_left
  · rw [if_neg c35] at H
    have c35b0 : ((t425.length : Int) == 0) = false := beq_eq_false_iff_ne.mpr c35
    have c35b1 : ((t425.length : Int) != 0) = true := bne_iff_ne.mpr c35
    have c35b2 : ¬ (t425 = []) := fun h_ => c35 (by rw [h_]; rfl)
    exact absurd (Option.some.inj H) (by rw [hr1_.out]; decide)
  rw [if_pos c35] at H
  have c35b0 : ((t425.length : Int) == 0) = true := beq_iff_eq.mpr c35
  have c35b1 : ((t425.length : Int) != 0) = false := bne_eq_false_iff_eq.mpr c35
  clear c35
  replace H := Option.bind_eq_some_iff.mp H
  obtain ⟨t428, A360, H⟩ := H
  replace H : (if (t428.length : Int) = 0 then ((round_Round_Book.f t406 t407 t408 t409 t410 t411 t412 t413 t416 false false false false false false ([] : List (S43)) ([] : List (S48))).bind fun t431 => (some ((t431.length : Int) == 0))) else (some false)) = some r := H
  have A36 := zM A360
  clear A360
  by_cases c37 : (t428.length : Int) = 0
  rotate_left
  · rw [if_neg c37] at H
    have c37b0 : ((t428.length : Int) == 0) = false := beq_eq_false_iff_ne.mpr c37
    have c37b1 : ((t428.length : Int) != 0) = true := bne_iff_ne.mpr c37
    have c37b2 : ¬ (t428 = []) := fun h_ => c37 (by rw [h_]; rfl)
    exact absurd (Option.some.inj H) (by rw [hr1_.out]; decide)
  rw [if_pos c37] at H
  have c37b0 : ((t428.length : Int) == 0) = true := beq_iff_eq.mpr c37
  have c37b1 : ((t428.length : Int) != 0) = false := bne_eq_false_iff_eq.mpr c37
  clear c37
  replace H := Option.bind_eq_some_iff.mp H
  obtain ⟨t431, A380, H⟩ := H
  replace H : (some ((t431.length : Int) == 0)) = some r := H
  have A38 := zM A380
  clear A380
  obtain rfl := Option.some.inj H
  have tk40 : True := trivial
  have tk42 : True := trivial
  have tk45 : True := trivial
  have tk47 : True := trivial
  have tk50 : True := trivial
  have tk53 : True := trivial
  go_wp2_with (first | ((with_reducible refine gate_callee (f := 9) rfl ?_); clear tk40; refine goL_ (some 8) Try.func9 #[] ?_; (with_reducible refine (ropewaylaw14_roundAlive.calls k  true _ A28.out).mono ?_); rintro e w39 ⟨rfl, hb⟩; refine ⟨_, rfl, ?_⟩; replace HO400 := zM (Kd.R_below (rl_ HO400) hb); replace HO403 := zM (Kd.R_below (rl_ HO403) hb); replace HO415 := zM (Kd.R_below (rl_ HO415) hb); replace HO418 := zM (Kd.R_below (rl_ HO418) hb); replace BK404 := zM (bb_ BK404 hb); replace BK405 := zM (bb_ BK405 hb); replace BK419 := zM (bb_ BK419 hb); replace HB := zM (zB bel_ hb); (try clear hb); (try clear hi)) | (go_at_call 15; (with_reducible refine calls_of_args (args' := #[.pointer (some ⟨gb419, 0, none⟩)]) rfl ?_); (refine (round_Round_Asks.calls k gb419 t406 t407 t408 t409 t410 t411 t412 Ao24 co24 t413 Ao23 co23 t416 false false false false false false none 0 ([] : List (S43)) none 0 ([] : List (S48)) t421 _ ?side1 ?side2 ?side3 ?side4 ?side5 ?side6 ?side7 ?side8 ?side9 A30.out).mono ?_); (case side1 => repeat (first | exact (Kd.R_reads' HO415.out).2.2 | (with_reducible refine Kd.C_alloc ?_ _) | (with_reducible refine Kd.C_drewN ?_ _) | (with_reducible refine Kd.C_drew ?_))); (case side2 => exact (Kd.R_reads' HO415.out).2.1); (case side3 => repeat (first | exact (Kd.R_reads' HO418.out).2.2 | (with_reducible refine Kd.C_alloc ?_ _) | (with_reducible refine Kd.C_drewN ?_ _) | (with_reducible refine Kd.C_drew ?_))); (case side4 => exact (Kd.R_reads' HO418.out).2.1); (case side5 => exact Kd.C_nil _ _); (case side6 => exact Nat.le_refl _); (case side7 => exact Kd.C_nil _ _); (case side8 => exact Nat.le_refl _); (case side9 => exact blf_); clear tk42; rintro e w41 ⟨v422, rfl, ho0, hb⟩; have HO423 := zM (Kd.S_lower (Kd.S_newB (Kd.S_newB (Kd.S_new' (Kd.S_new' (Kd.S_new' (Kd.S_new' ho0 (Kd.R_lt (rl_ HO400))) (Kd.R_lt (rl_ HO403))) (Kd.R_lt (rl_ HO415))) (Kd.R_lt (rl_ HO418))) (g := gb404) (o := .cells #[.int .i64 t391, .int .i64 t392, .int .i64 t393, .int .i64 t394, .int .i64 t395, .int .i64 1, .int .i64 1, .slice Ao7 t398.length co7, .slice Ao8 t401.length co8] 27 (0, 0)) blk_) (g := gb405) (o := .cells #[.int .i64 t391, .int .i64 t392, .int .i64 t393, .int .i64 t394, .int .i64 t395, .int .i64 1, .int .i64 1, .slice Ao7 t398.length co7, .slice Ao8 t401.length co8] 27 (0, 0)) blk_) (below_size bel_)); replace HO400 := zM (Kd.R_below (rl_ HO400) hb); replace HO403 := zM (Kd.R_below (rl_ HO403) hb); replace HO415 := zM (Kd.R_below (rl_ HO415) hb); replace HO418 := zM (Kd.R_below (rl_ HO418) hb); replace BK404 := zM (bb_ BK404 hb); replace BK405 := zM (bb_ BK405 hb); replace BK419 := zM (bb_ BK419 hb); replace HB := zM (zB bel_ hb); (try clear hb); (try clear ho0); obtain ⟨Ao43, co43, eo43⟩ := Kd.S_slice HO423.out; subst eo43) | (go_at_call 13; (with_reducible refine calls_of_args (args' := #[.pointer (some ⟨gb419, 0, none⟩)]) rfl ?_); (refine (round_Round_Done.calls k gb419 t406 t407 t408 t409 t410 t411 t412 Ao24 co24 t413 Ao23 co23 t416 false false false false false false none 0 ([] : List (S43)) none 0 ([] : List (S48)) false _ ?side1 ?side2 ?side3 ?side4 ?side5 ?side6 ?side7 ?side8 ?side9 A32.out).mono ?_); (case side1 => repeat (first | exact (Kd.R_reads' HO415.out).2.2 | (with_reducible refine Kd.C_alloc ?_ _) | (with_reducible refine Kd.C_drewN ?_ _) | (with_reducible refine Kd.C_drew ?_))); (case side2 => exact (Kd.R_reads' HO415.out).2.1); (case side3 => repeat (first | exact (Kd.R_reads' HO418.out).2.2 | (with_reducible refine Kd.C_alloc ?_ _) | (with_reducible refine Kd.C_drewN ?_ _) | (with_reducible refine Kd.C_drew ?_))); (case side4 => exact (Kd.R_reads' HO418.out).2.1); (case side5 => exact Kd.C_nil _ _); (case side6 => exact Nat.le_refl _); (case side7 => exact Kd.C_nil _ _); (case side8 => exact Nat.le_refl _); (case side9 => exact blf_); clear tk45; rintro e w44 ⟨rfl, hb⟩; replace HO400 := zM (Kd.R_below (rl_ HO400) hb); replace HO403 := zM (Kd.R_below (rl_ HO403) hb); replace HO415 := zM (Kd.R_below (rl_ HO415) hb); replace HO418 := zM (Kd.R_below (rl_ HO418) hb); replace HO423 := zM (Kd.S_below (by (with_reducible repeat (first | apply Kd.S_alloc | apply Kd.S_drewN | apply Kd.S_drew)); exact HO423.out) hb); replace BK404 := zM (bb_ BK404 hb); replace BK405 := zM (bb_ BK405 hb); replace BK419 := zM (bb_ BK419 hb); replace HB := zM (zB bel_ hb); (try clear hb); (try clear hi)) | (go_at_call 14; (with_reducible refine calls_of_args (args' := #[.pointer (some ⟨gb419, 0, none⟩)]) rfl ?_); (refine (round_Round_Who.calls k gb419 t406 t407 t408 t409 t410 t411 t412 Ao24 co24 t413 Ao23 co23 t416 false false false false false false none 0 ([] : List (S43)) none 0 ([] : List (S48)) t425 _ ?side1 ?side2 ?side3 ?side4 ?side5 ?side6 ?side7 ?side8 ?side9 A34.out).mono ?_); (case side1 => repeat (first | exact (Kd.R_reads' HO415.out).2.2 | (with_reducible refine Kd.C_alloc ?_ _) | (with_reducible refine Kd.C_drewN ?_ _) | (with_reducible refine Kd.C_drew ?_))); (case side2 => exact (Kd.R_reads' HO415.out).2.1); (case side3 => repeat (first | exact (Kd.R_reads' HO418.out).2.2 | (with_reducible refine Kd.C_alloc ?_ _) | (with_reducible refine Kd.C_drewN ?_ _) | (with_reducible refine Kd.C_drew ?_))); (case side4 => exact (Kd.R_reads' HO418.out).2.1); (case side5 => exact Kd.C_nil _ _); (case side6 => exact Nat.le_refl _); (case side7 => exact Kd.C_nil _ _); (case side8 => exact Nat.le_refl _); (case side9 => exact blf_); clear tk47; rintro e w46 ⟨v426, rfl, ho0, hb⟩; replace HO400 := zM (Kd.R_below (rl_ HO400) hb); replace HO403 := zM (Kd.R_below (rl_ HO403) hb); replace HO415 := zM (Kd.R_below (rl_ HO415) hb); replace HO418 := zM (Kd.R_below (rl_ HO418) hb); replace HO423 := zM (Kd.S_below (by (with_reducible repeat (first | apply Kd.S_alloc | apply Kd.S_drewN | apply Kd.S_drew)); exact HO423.out) hb); have HO427 := zM (Kd.R_lower ho0 (below_size bel_)); replace BK404 := zM (bb_ BK404 hb); replace BK405 := zM (bb_ BK405 hb); replace BK419 := zM (bb_ BK419 hb); replace HB := zM (zB bel_ hb); (try clear hb); (try clear ho0); obtain ⟨Ao48, co48, eo48⟩ := Kd.R_slice HO427.out; subst eo48) | (go_at_call 18; (with_reducible refine calls_of_args (args' := #[.pointer (some ⟨gb419, 0, none⟩)]) rfl ?_); (refine (round_Round_Cells.calls gb419 t406 t407 t408 t409 t410 t411 t412 Ao24 co24 t413 Ao23 co23 t416 false false false false false false none 0 ([] : List (S43)) none 0 ([] : List (S48)) t428 _ ?side1 ?side2 ?side3 ?side4 ?side5 ?side6 ?side7 ?side8 ?side9 A36.out).mono ?_); (case side1 => repeat (first | exact (Kd.R_reads' HO415.out).2.2 | (with_reducible refine Kd.C_alloc ?_ _) | (with_reducible refine Kd.C_drewN ?_ _) | (with_reducible refine Kd.C_drew ?_))); (case side2 => exact (Kd.R_reads' HO415.out).2.1); (case side3 => repeat (first | exact (Kd.R_reads' HO418.out).2.2 | (with_reducible refine Kd.C_alloc ?_ _) | (with_reducible refine Kd.C_drewN ?_ _) | (with_reducible refine Kd.C_drew ?_))); (case side4 => exact (Kd.R_reads' HO418.out).2.1); (case side5 => exact Kd.C_nil _ _); (case side6 => exact Nat.le_refl _); (case side7 => exact Kd.C_nil _ _); (case side8 => exact Nat.le_refl _); (case side9 => exact blf_); clear tk50; rintro e w49 ⟨v429, rfl, ho0, hb⟩; replace HO403 := zM (Kd.R_below (rl_ HO403) hb); replace HO418 := zM (Kd.R_below (rl_ HO418) hb); replace HO423 := zM (Kd.S_elder' (by (with_reducible repeat (first | apply Kd.S_alloc | apply Kd.S_drewN | apply Kd.S_drew)); exact HO423.out) (Kd.R_base ho0) hb); replace HO427 := zM (Kd.R_below (rl_ HO427) hb); have HO430 := zM (Kd.R_lower (Kd.R_new' (Kd.R_new' ho0 (Kd.R_lt (rl_ HO400))) (Kd.R_lt (rl_ HO415))) (below_size bel_)); replace HO400 := zM (Kd.R_elder' (rl_ HO400) (Kd.R_base ho0) hb); replace HO415 := zM (Kd.R_elder' (rl_ HO415) (Kd.R_base ho0) hb); replace BK404 := zM (bb_ BK404 hb); replace BK405 := zM (bb_ BK405 hb); replace BK419 := zM (bb_ BK419 hb); replace HB := zM (zB bel_ hb); (try clear hb); (try clear ho0); obtain ⟨Ao51, co51, eo51⟩ := Kd.R_slice HO430.out; subst eo51) | (go_at_call 19; (with_reducible refine calls_of_args (args' := #[.pointer (some ⟨gb419, 0, none⟩)]) rfl ?_); (refine (round_Round_Book.calls gb419 t406 t407 t408 t409 t410 t411 t412 Ao24 co24 t413 Ao23 co23 t416 false false false false false false none 0 ([] : List (S43)) none 0 ([] : List (S48)) t431 _ ?side1 ?side2 ?side3 ?side4 ?side5 ?side6 ?side7 ?side8 ?side9 A38.out).mono ?_); (case side1 => repeat (first | exact (Kd.R_reads' HO415.out).2.2 | (with_reducible refine Kd.C_alloc ?_ _) | (with_reducible refine Kd.C_drewN ?_ _) | (with_reducible refine Kd.C_drew ?_))); (case side2 => exact (Kd.R_reads' HO415.out).2.1); (case side3 => repeat (first | exact (Kd.R_reads' HO418.out).2.2 | (with_reducible refine Kd.C_alloc ?_ _) | (with_reducible refine Kd.C_drewN ?_ _) | (with_reducible refine Kd.C_drew ?_))); (case side4 => exact (Kd.R_reads' HO418.out).2.1); (case side5 => exact Kd.C_nil _ _); (case side6 => exact Nat.le_refl _); (case side7 => exact Kd.C_nil _ _); (case side8 => exact Nat.le_refl _); (case side9 => exact blf_); clear tk53; rintro e w52 ⟨v432, rfl, ho0, hb⟩; replace HO400 := zM (Kd.R_below (rl_ HO400) hb); replace HO415 := zM (Kd.R_below (rl_ HO415) hb); replace HO423 := zM (Kd.S_elder' (by (with_reducible repeat (first | apply Kd.S_alloc | apply Kd.S_drewN | apply Kd.S_drew)); exact HO423.out) (Kd.R_base ho0) hb); replace HO427 := zM (Kd.R_below (rl_ HO427) hb); replace HO430 := zM (Kd.R_below (rl_ HO430) hb); have HO433 := zM (Kd.R_lower (Kd.R_new' (Kd.R_new' ho0 (Kd.R_lt (rl_ HO403))) (Kd.R_lt (rl_ HO418))) (below_size bel_)); replace HO403 := zM (Kd.R_elder' (rl_ HO403) (Kd.R_base ho0) hb); replace HO418 := zM (Kd.R_elder' (rl_ HO418) (Kd.R_base ho0) hb); replace BK404 := zM (bb_ BK404 hb); replace BK405 := zM (bb_ BK405 hb); replace BK419 := zM (bb_ BK419 hb); replace HB := zM (zB bel_ hb); (try clear hb); (try clear ho0); obtain ⟨Ao54, co54, eo54⟩ := Kd.R_slice HO433.out; subst eo54))
  go_ret
  exact ⟨by first | rfl | (simp [errW_none, errW_some] <;> rfl) | (simp [*, errW_none, errW_some] <;> rfl), bel_⟩
/-- THE ONE PURE STATEMENT of ropewaylaw14_RoundNames. -/
def ropewaylaw14_RoundNames.Pure : Prop := ∃ k, ropewaylaw14_RoundNames.f k  = some true

end Go.Proofs.Ytmgiaappokkjfaa.PRoundNames
