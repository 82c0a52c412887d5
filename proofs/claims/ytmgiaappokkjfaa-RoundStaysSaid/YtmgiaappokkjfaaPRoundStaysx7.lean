/- Written by a program of this session (wip/tool/px.py) over the kit's print: what the code that the law RoundStays reaches computes, function by function, and the law's row. -/
import Derived.Test.YtmgiaappokkjfaaPRoundStaysx0
import Derived.Test.YtmgiaappokkjfaaPRoundStaysx2
import Derived.Test.YtmgiaappokkjfaaPRoundStaysx4
import Derived.Test.YtmgiaappokkjfaaPRoundStaysx6
namespace Go.Proofs.Ytmgiaappokkjfaa.PRoundStays
open Go.RowKit Go.Proofs.YtmgiaappokkjfaaX Go.Proofs.YtmgiaappokkjfaaW.PrintWords Go.Proofs.YtmgiaappokkjfaaW.PrintLast Go.Proofs.YtmgiaappokkjfaaW.PrintMore
open List renaming setIfInBounds_toArray → zS, set_cons_zero → zZ, set_cons_succ → zC
open Go.Proofs.YtmgiaappokkjfaaW.PrintWords renaming blk_drewN → zN, blk_drew → zD, blk_alloc → zA, blk_cell → zL, blk_frozen → zF, below_step → zB
open Go.Proofs.YtmgiaappokkjfaaW.PrintWords.Aside0 renaming mk → zM
attribute [local go_sem] max2_int min2_int max_two min_two max_three min_three max_four min_four   -- for this text's walks alone
set_option linter.unusedVariables false
set_option linter.unusedSimpArgs false

attribute [local go_sem] px_store_float px_neg_float
attribute [local go_sem] px_eqarr67 px_nilq24 px_nilq25
/-! ### tag_compare: function 96 -/
def tag_compare.f (k : Nat) (a0_0 : Int) (a0_1 : Int) (a1_0 : Int) (a1_1 : Int) : Option (Int) := (cmp_Compare_int.f a0_0 a1_0).bind fun t224 => ((cmp_Compare_int.f a0_1 a1_1).bind fun t225 => ((cmp_Or_int.f k (([t224, t225] : List Int))).bind fun t229 => (some t229)))
theorem tag_compare.mono : ∀ a0 a1 a2 a3 k, LeO (tag_compare.f k a0 a1 a2 a3) (tag_compare.f (k + 1) a0 a1 a2 a3) := by
  intro a0 a1 a2 a3 k
  unfold tag_compare.f
  repeat' first
      | (with_reducible exact cmp_Or_int.mono _ _)
      | (with_reducible exact LeO.refl _)
      | (with_reducible exact LeO.none _)
      | (with_reducible refine LeO.ite ?_ ?_)
      | (with_reducible refine LeO.bind ?_ (fun _ => ?_))
      | exact cmp_Or_int.mono _ _
      | exact LeO.none _
      | refine LeO.ite ?_ ?_
      | refine LeO.bind ?_ (fun _ => ?_)
def tag_compare.T1 : Bool × List (List Nat × List Nat) := (true, [([], []), ([0], [0]), ([], []), ([2], [2]), ([1, 3], [1, 3]), ([], []), ([5], [5]), ([], []), ([7], [7]), ([6, 8, 4], [6, 8]), ([4, 9], [4, 9]), ([10, 9], [10]), ([11, 11, 0, 1, 2, 3, 4, 5, 6, 7, 8, 9, 10, 11], [11])])
def tag_compare.B1 : List Nat := [0, 1, 0, 4, 15, 0, 32, 0, 128, 511, 1023, 2047, 4095]
theorem tag_compare.tab1 : rtab .any (opsOf Try.f96 1) = tag_compare.T1 := by kernel_rfl
theorem tag_compare.bits1 : waitsOk tag_compare.T1.2 tag_compare.B1 = true := by kernel_rfl
set_option maxHeartbeats 8000000 in
set_option maxRecDepth 100000 in
theorem tag_compare.calls (k : Nat) (a0_0 : Int) (a0_1 : Int) (a1_0 : Int) (a1_1 : Int) (r : Int) (w : World) (h : tag_compare.f k a0_0 a0_1 a1_0 a1_1 = some r) :
    Calls Try.prog 96 #[.agg #[.int .i64 a0_0, .int .i64 a0_1], .agg #[.int .i64 a1_0, .int .i64 a1_1]] w fun e w' => e = .returned (.int .i64 r) ∧ Below w.heap.size w w' := by
  have hu45 := Try.underlying45
  have HB := zM (Below.refl w.heap.size w)
  have H : ((cmp_Compare_int.f a0_0 a1_0).bind fun t224 => ((cmp_Compare_int.f a0_1 a1_1).bind fun t225 => ((cmp_Or_int.f k (([t224, t225] : List Int))).bind fun t229 => (some t229)))) = some r := h
  clear h
  replace H := Option.bind_eq_some_iff.mp H
  obtain ⟨t224, A30, H⟩ := H
  replace H : ((cmp_Compare_int.f a0_1 a1_1).bind fun t225 => ((cmp_Or_int.f k (([t224, t225] : List Int))).bind fun t229 => (some t229))) = some r := H
  have A3 := zM A30
  clear A30
  replace H := Option.bind_eq_some_iff.mp H
  obtain ⟨t225, A40, H⟩ := H
  replace H : ((cmp_Or_int.f k (([t224, t225] : List Int))).bind fun t229 => (some t229)) = some r := H
  have A4 := zM A40
  clear A40
  obtain ⟨y226, hy226⟩ : ∃ y_ : List Int, y_ = (([t224, t225] : List Int)) := ⟨_, rfl⟩
  replace H : ((cmp_Or_int.f k y226).bind fun t229 => (some t229)) = some r := by first | (rw [hy226]; with_reducible exact H) | (have H2_ := (Option.bind_some _ _).symm.trans H; rw [hy226]; with_reducible exact H2_) | (have H2_ := (Option.bind_some _ _).symm.trans H; with_reducible exact H2_) | with_reducible exact H | (rw [hy226]; exact H) | exact H
  have Ny226 := zM hy226
  clear hy226
  replace H := Option.bind_eq_some_iff.mp H
  obtain ⟨t229, A50, H⟩ := H
  replace H : (some t229) = some r := H
  have A5 := zM A50
  clear A50
  obtain rfl := Option.some.inj H
  go_enter Try.func96, Try.ntmps96
  try go_wp2_with (first | ((with_reducible refine gate_dst (N := 2) rfl ?_); refine box_event ?hg (N := 2) ?hd (cs := #[.int .i64 a0_0, .int .i64 a0_1]) (t := 45) ?hr ?_; (case hd => rfl); (case hg => rfl); (case hr => first | (go_simp; done) | (go_simp; rfl)); intro gb222 hg w6 hbox hb; have BK222 := zM (hbox); have GW222 := zM (bs_ hg); have GE222 := zM (bs_ hg); replace HB := zM (zB bel_ hb); clear hb hbox hg) | ((with_reducible refine gate_dst (N := 3) rfl ?_); refine box_event ?hg (N := 3) ?hd (cs := #[.int .i64 a1_0, .int .i64 a1_1]) (t := 45) ?hr ?_; (case hd => rfl); (case hg => rfl); (case hr => first | (go_simp; done) | (go_simp; rfl)); intro gb223 hg w7 hbox hb; have BK223 := zM (hbox); have GW223 := zM (bs_ hg); have GE223 := zM (bs_ hg); replace HB := zM (zB bel_ hb); have NB222_223 := zM (nl_ BK222 hg); have NB223_222 := zM (ng_ BK222 hg); replace BK222 := zM (bb_ BK222 hb); clear hb hbox hg))
  replace BK222 := zM (zD BK222.out)
  replace BK223 := zM (zD BK223.out)
  replace HB := zM (below_drew1 HB.out)
  refine start_ (n := 13) (S := fun w' => w'.cell? ⟨gb222, 0, none⟩ = some (.int .i64 a0_0) ∧ w'.cell? ⟨gb222, 1, none⟩ = some (.int .i64 a0_1) ∧ w'.cell? ⟨gb223, 0, none⟩ = some (.int .i64 a1_0) ∧ w'.cell? ⟨gb223, 1, none⟩ = some (.int .i64 a1_1)) (ds := []) #[F_, F_, F_, F_, F_, F_, F_, F_, F_, F_, F_, F_, F_] (by kernel_rfl) rfl rfl ⟨(zL BK222.out 0).trans rfl, (zL BK222.out 1).trans rfl, (zL BK223.out 0).trans rfl, (zL BK223.out 1).trans rfl⟩ (fun hHeld => ?_); refine with_tabW tag_compare.tab1 tag_compare.bits1 (fun HT_ HW_ => ?_)
  generalize w7.drew = w8 at BK222 BK223 HB hHeld ⊢
  refine put_ HT_ 0 5 (dm_ 13 1) ?_
  refine put_ HT_ 2 7 (dm_ 13 5) ?_
  refine put_ HT_ 5 10 (dm_ 13 37) ?_
  refine put_ HT_ 7 12 (dm_ 13 165) ?_
  refine tkt_ HT_ HW_ hHeld 1 6 (dm_ 13 167) ?_
  refine tkt_ HT_ HW_ hHeld 3 8 (dm_ 13 175) ?_
  refine tkt_ HT_ HW_ hHeld 6 11 (dm_ 13 239) ?_
  refine tkt_ HT_ HW_ hHeld 8 13 (dm_ 13 495) ?_
  refine one_ (i := 4) (N := some 9) (dm_ 13 511) rfl rfl (one_of HT_.out (by kernel_rfl)) (by decide) (fun K hK => ?_)
  refine goes_ Try.func74 (by kernel_rfl) rfl #[.int .i64 a0_0, .int .i64 a1_0] (by rfl) rfl rfl (by (try simp only [List.map_toArray, List.map_cons, List.map_nil]); first | done | rfl | (simp only [List.length_drop, List.length_take]; rfl)) ?_
  with_reducible refine (cmp_Compare_int.calls a0_0 a1_0 t224 _ A3.out).mono ?_
  rintro e w' ⟨rfl, ⟨nd, rfl⟩⟩
  refine ⟨_, rfl, ?_⟩
  refine hK.out _ _ ⟨(zL BK222.out 0).trans rfl, (zL BK222.out 1).trans rfl, (zL BK223.out 0).trans rfl, (zL BK223.out 1).trans rfl⟩ (fun hHeld => ?_)
  clear hK K
  refine norm_ (a' := ?_) ?_ ?_
  rotate_left
  · show Act.put _ (some 9) _ = _
    simp only [Act.put, zS, zZ, zC, i64_w, i32_w]
    rfl
  refine one_ (i := 9) (N := some 14) (dm_ 13 1023) rfl rfl (one_of HT_.out (by kernel_rfl)) (by decide) (fun K hK => ?_)
  refine goes_ Try.func74 (by kernel_rfl) rfl #[.int .i64 a0_1, .int .i64 a1_1] (by rfl) rfl rfl (by (try simp only [List.map_toArray, List.map_cons, List.map_nil]); first | done | rfl | (simp only [List.length_drop, List.length_take]; rfl)) ?_
  with_reducible refine (cmp_Compare_int.calls a0_1 a1_1 t225 _ A4.out).mono ?_
  rintro e w' ⟨rfl, ⟨nd, rfl⟩⟩
  refine ⟨_, rfl, ?_⟩
  refine hK.out _ _ ⟨(zL BK222.out 0).trans rfl, (zL BK222.out 1).trans rfl, (zL BK223.out 0).trans rfl, (zL BK223.out 1).trans rfl⟩ (fun hHeld => ?_)
  clear hK K
  refine norm_ (a' := ?_) ?_ ?_
  rotate_left
  · show Act.put _ (some 14) _ = _
    simp only [Act.put, zS, zZ, zC, i64_w, i32_w]
    rfl
  refine one_ (i := 10) (N := some 15) (dm_ 13 2047) rfl rfl (one_of HT_.out (by kernel_rfl)) (by decide) (fun K hK => ?_)
  refine Kd.R_lit_step (Kd.int .i64) _ 3 ?hg (N := 15) ?hd (xs := ([t224, t225] : List Int)) (inner := [.int .i64 t224, .int .i64 t225]) (ok := fun _ => True) (okp := fun _ => True) ?hr ?hp (fun _ hk => hk) trivial (Below.refl _ _) (Nat.le_refl _) (by simp) ?_; (case hd => rfl); (case hg => rfl); (case hr => first | (go_simp; done) | (go_simp; rfl)); (case hp => exact (Reps.one (show Kd.M (Kd.int .i64) _ _ _ t224 [.int .i64 t224] from rfl) (Reps.one (show Kd.M (Kd.int .i64) _ _ _ t225 [.int .i64 t225] from rfl) (Reps.none _ _))))
  intro v227 w9 ho10 hb hg_ hnew_
  clear hg_ hnew_
  (first | rw [← Ny226.out] at ho10 | (simp only [Int.reduceToNat] at ho10; rw [← Ny226.out] at ho10))
  have HO228 := zM (Kd.R_lower ho10 (below_size bel_))
  replace BK222 := zM (bb_ BK222 hb)
  replace BK223 := zM (bb_ BK223 hb)
  replace HB := zM (zB bel_ hb)
  clear hb ho10
  obtain ⟨Ao11, co11, eo11⟩ := Kd.R_slice HO228.out
  (first | subst eo11 | (injection eo11 with f1_ f2_ f3_; have f4_ := f1_.symm; have f5_ := f3_.symm; clear f1_ f2_ f3_; subst f4_; subst f5_))
  refine hK.out _ _ ⟨(zL BK222.out 0).trans rfl, (zL BK222.out 1).trans rfl, (zL BK223.out 0).trans rfl, (zL BK223.out 1).trans rfl⟩ (fun hHeld => ?_)
  clear hK K
  refine norm_ (a' := ?_) ?_ ?_
  rotate_left
  · show Act.put _ (some 15) _ = _
    simp only [Act.put, zS, zZ, zC, i64_w, i32_w]
    rfl
  refine one_ (i := 11) (N := some 16) (dm_ 13 4095) rfl rfl (one_of HT_.out (by kernel_rfl)) (by decide) (fun K hK => ?_)
  refine goes_ Try.func113 (by kernel_rfl) rfl #[.slice Ao11 y226.length co11] (by rfl) rfl rfl (by (try simp only [List.map_toArray, List.map_cons, List.map_nil]); first | done | rfl | (simp only [List.length_drop, List.length_take]; rfl)) ?_
  with_reducible refine (cmp_Or_int.calls k _ _ y226 t229 _ ?side1 ?side2 A5.out).mono ?_
  (case side1 => repeat (first | exact (Kd.R_reads' HO228.out).2.2 | (with_reducible refine Kd.C_alloc ?_ _) | (with_reducible refine Kd.C_drewN ?_ _) | (with_reducible refine Kd.C_drew ?_)))
  (case side2 => exact (Kd.R_reads' HO228.out).2.1)
  rintro e w' ⟨rfl, ⟨nd, rfl⟩⟩
  refine ⟨_, rfl, ?_⟩
  refine hK.out _ _ ⟨(zL BK222.out 0).trans rfl, (zL BK222.out 1).trans rfl, (zL BK223.out 0).trans rfl, (zL BK223.out 1).trans rfl⟩ (fun hHeld => ?_)
  clear hK K
  refine norm_ (a' := ?_) ?_ ?_
  rotate_left
  · show Act.put _ (some 16) _ = _
    simp only [Act.put, zS, zZ, zC, i64_w, i32_w]
    rfl
  refine put_ HT_ 12 4 (dm_ 13 8191) ?_
  refine done_ (done_of HT_.out (by kernel_rfl)) ?_
  try go_wp2
  go_ret
  exact ⟨by first | rfl | (simp [errW_none, errW_some] <;> rfl) | (simp [*, errW_none, errW_some] <;> rfl), bel_⟩
/-! ### tag_Less: function 75 -/
def tag_Less.f (k : Nat) (a0_0 : Int) (a0_1 : Int) (a1_0 : Int) (a1_1 : Int) : Option (Bool) := (tag_compare.f k a0_0 a0_1 a1_0 a1_1).bind fun t232 => (some (decide (t232 < 0)))
theorem tag_Less.mono : ∀ a0 a1 a2 a3 k, LeO (tag_Less.f k a0 a1 a2 a3) (tag_Less.f (k + 1) a0 a1 a2 a3) := by
  intro a0 a1 a2 a3 k
  unfold tag_Less.f
  repeat' first
      | (with_reducible exact tag_compare.mono _ _ _ _ _)
      | (with_reducible exact LeO.refl _)
      | (with_reducible exact LeO.none _)
      | (with_reducible refine LeO.ite ?_ ?_)
      | (with_reducible refine LeO.bind ?_ (fun _ => ?_))
      | exact tag_compare.mono _ _ _ _ _
      | exact LeO.none _
      | refine LeO.ite ?_ ?_
      | refine LeO.bind ?_ (fun _ => ?_)
set_option maxHeartbeats 8000000 in
set_option maxRecDepth 100000 in
theorem tag_Less.calls (k : Nat) (a0_0 : Int) (a0_1 : Int) (a1_0 : Int) (a1_1 : Int) (r : Bool) (w : World) (h : tag_Less.f k a0_0 a0_1 a1_0 a1_1 = some r) :
    Calls Try.prog 75 #[.agg #[.int .i64 a0_0, .int .i64 a0_1], .agg #[.int .i64 a1_0, .int .i64 a1_1]] w fun e w' => e = .returned (.bool r) ∧ Below w.heap.size w w' := by
  have hu45 := Try.underlying45
  have HB := zM (Below.refl w.heap.size w)
  have H : ((tag_compare.f k a0_0 a0_1 a1_0 a1_1).bind fun t232 => (some (decide (t232 < 0)))) = some r := h
  clear h
  go_enter Try.func75, Try.ntmps75
  go_upto_region 1 with (first | ((with_reducible refine gate_dst (N := 2) rfl ?_); refine box_event ?hg (N := 2) ?hd (cs := #[.int .i64 a0_0, .int .i64 a0_1]) (t := 45) ?hr ?_; (case hd => rfl); (case hg => rfl); (case hr => first | (go_simp; done) | (go_simp; rfl)); intro gb230 hg w3 hbox hb; have BK230 := zM (hbox); have GW230 := zM (bs_ hg); have GE230 := zM (bs_ hg); replace HB := zM (zB bel_ hb); clear hb hbox hg) | ((with_reducible refine gate_dst (N := 3) rfl ?_); refine box_event ?hg (N := 3) ?hd (cs := #[.int .i64 a1_0, .int .i64 a1_1]) (t := 45) ?hr ?_; (case hd => rfl); (case hg => rfl); (case hr => first | (go_simp; done) | (go_simp; rfl)); intro gb231 hg w4 hbox hb; have BK231 := zM (hbox); have GW231 := zM (bs_ hg); have GE231 := zM (bs_ hg); replace HB := zM (zB bel_ hb); have NB230_231 := zM (nl_ BK230 hg); have NB231_230 := zM (ng_ BK230 hg); replace BK230 := zM (bb_ BK230 hb); clear hb hbox hg))
  replace H := Option.bind_eq_some_iff.mp H
  obtain ⟨t232, A50, H⟩ := H
  replace H : (some (decide (t232 < 0))) = some r := H
  have A5 := zM A50
  clear A50
  obtain rfl := Option.some.inj H
  have hnb6 := NB230_231.out
  have hnc6 := NB231_230.out
  have hcz7_0 : w4.cell? ⟨gb230, 0, none⟩ = some (.int .i64 a0_0) := (zL BK230.out 0).trans rfl
  have hcz7_1 : w4.cell? ⟨gb230, 1, none⟩ = some (.int .i64 a0_1) := (zL BK230.out 1).trans rfl
  have hfz7_0 := zF BK230.out 0
  have hfz7_1 := zF BK230.out 1
  have hcz8_0 : w4.cell? ⟨gb231, 0, none⟩ = some (.int .i64 a1_0) := (zL BK231.out 0).trans rfl
  have hcz8_1 : w4.cell? ⟨gb231, 1, none⟩ = some (.int .i64 a1_1) := (zL BK231.out 1).trans rfl
  have hfz8_0 := zF BK231.out 0
  have hfz8_1 := zF BK231.out 1
  go_wp2_with (first | ((with_reducible refine gate_callee (f := 96) rfl ?_); refine goL_ (some 7) Try.func96 #[.agg #[.int .i64 a0_0, .int .i64 a0_1], .agg #[.int .i64 a1_0, .int .i64 a1_1]] ?_; (with_reducible refine (tag_compare.calls k a0_0 a0_1 a1_0 a1_1 t232 _ A5.out).mono ?_); rintro e w9 ⟨rfl, hb⟩; refine ⟨_, rfl, ?_⟩; replace BK230 := zM (bb_ BK230 hb); replace BK231 := zM (bb_ BK231 hb); replace HB := zM (zB bel_ hb); (try clear hb); (try clear hb2); (try clear hk); (try clear hi)))
  go_ret
  exact ⟨by first | rfl | (simp [errW_none, errW_some] <;> rfl) | (simp [*, errW_none, errW_some] <;> rfl), bel_⟩
/-! ### book_Merge: function 43 -/
def book_Merge.l0 : Nat → List (S48) → List (S48) → List (S48) → Int → Option ((List (S48)))
  | 0, _, _, _, _ => none
  | k + 1, x0, x1, x5, x9 => if x9 < 4 then ((book_find.f k x0 x9).bind fun bt233 => ((book_find.f k x1 x9).bind fun bt237 => ((tag_Less.f k bt233.2.1 bt233.2.2.1 bt237.2.1 bt237.2.2.1).bind fun t243 => (if t243 = true then (if bt237.2.1 > 0 then (if x5.length < 4398046511104 then (book_Merge.l0 k x0 x1 (x5 ++ [(⟨bt237.1, (⟨bt237.2.1, bt237.2.2.1⟩ : S45), bt237.2.2.2⟩ : S48)]) (wrap64 (x9 + 1))) else (none)) else (book_Merge.l0 k x0 x1 x5 (wrap64 (x9 + 1)))) else (if bt233.2.1 > 0 then (if x5.length < 4398046511104 then (book_Merge.l0 k x0 x1 (x5 ++ [(⟨bt233.1, (⟨bt233.2.1, bt233.2.2.1⟩ : S45), bt233.2.2.2⟩ : S48)]) (wrap64 (x9 + 1))) else (none)) else (book_Merge.l0 k x0 x1 x5 (wrap64 (x9 + 1)))))))) else (some x5)
def book_Merge.f (k : Nat) (l0 : List (S48)) (l1 : List (S48)) : Option ((List (S48))) := book_Merge.l0 k l0 l1 ([] : List (S48)) 0
theorem book_Merge.mono_l : ∀ k, (∀ y0 y1 y2 y3, LeO (book_Merge.l0 k y0 y1 y2 y3) (book_Merge.l0 (k + 1) y0 y1 y2 y3))
  | 0 => fun _ _ _ _ r h => by simp [book_Merge.l0] at h
  | k + 1 => by
    have ih0 := book_Merge.mono_l k
    · intro y0 y1 y2 y3
      unfold book_Merge.l0
      repeat' first
      | (with_reducible exact ih0 _ _ _ _)
      | (with_reducible exact book_find.mono _ _ _)
      | (with_reducible exact tag_Less.mono _ _ _ _ _)
      | (with_reducible exact LeO.refl _)
      | (with_reducible exact LeO.none _)
      | (with_reducible refine LeO.ite ?_ ?_)
      | (with_reducible refine LeO.bind ?_ (fun _ => ?_))
      | exact ih0 _ _ _ _
      | exact book_find.mono _ _ _
      | exact tag_Less.mono _ _ _ _ _
      | exact LeO.none _
      | refine LeO.ite ?_ ?_
      | refine LeO.bind ?_ (fun _ => ?_)
theorem book_Merge.mono : ∀ a0 a1 k, LeO (book_Merge.f k a0 a1) (book_Merge.f (k + 1) a0 a1) := by
  intro a0 a1 k
  have ih0 := book_Merge.mono_l k
  unfold book_Merge.f
  repeat' first
      | (with_reducible exact ih0 _ _ _ _)
      | (with_reducible exact book_find.mono _ _ _)
      | (with_reducible exact tag_Less.mono _ _ _ _ _)
      | (with_reducible exact LeO.refl _)
      | (with_reducible exact LeO.none _)
      | (with_reducible refine LeO.ite ?_ ?_)
      | (with_reducible refine LeO.bind ?_ (fun _ => ?_))
      | exact ih0 _ _ _ _
      | exact book_find.mono _ _ _
      | exact tag_Less.mono _ _ _ _ _
      | exact LeO.none _
      | refine LeO.ite ?_ ?_
      | refine LeO.bind ?_ (fun _ => ?_)
set_option maxHeartbeats 8000000 in
set_option maxRecDepth 100000 in
theorem book_Merge.calls (k : Nat) (A0 : Option Addr) (c0 : Nat) (l0 : List (S48)) (A1 : Option Addr) (c1 : Nat) (l1 : List (S48)) (r : List (S48)) (w : World) (hr0 : Kd.C k48 w A0 l0.length l0) (hc0 : l0.length ≤ c0) (hr1 : Kd.C k48 w A1 l1.length l1) (hc1 : l1.length ≤ c1) (h : book_Merge.f k l0 l1 = some r) :
    Calls Try.prog 43 #[.slice A0 l0.length c0, .slice A1 l1.length c1] w fun e w' => ∃ v0_ : Value, e = .returned (v0_) ∧ Kd.R k48 48 w' w.heap.size (fun _ => True) v0_ r ∧ Below w.heap.size w w' := by
  have hu48 := Try.underlying48
  have hu45 := Try.underlying45
  have HR0 := zM hr0
  have HC0 := zM hc0
  clear hr0 hc0
  have HR1 := zM hr1
  have HC1 := zM hc1
  clear hr1 hc1
  have HB := zM (Below.refl w.heap.size w)
  have H : (book_Merge.l0 k l0 l1 ([] : List (S48)) 0) = some r := h
  clear h
  have H' := zM H
  clear H
  go_enter Try.func43, Try.ntmps43
  go_wp2
  go_loopg [5, 9] k (fun kq v5 v9 w' => ∃ (x5_1 : List (S48)) (x9_1 : Int), v9 = .int .i64 x9_1 ∧ Aside0 (book_Merge.l0 kq l0 l1 x5_1 x9_1 = some r) ∧ Aside0 (kq ≤ k) ∧ Aside0 (Kd.R k48 48 w' w.heap.size (fun _ => True) v5 x5_1) ∧ Aside0 (Below w.heap.size w w'))
  case atStart => exact ⟨(([] : List (S48))), (0), (by first | rfl | (simp; done) | (simp [*]; done) | (simp; grind)), H', ⟨Nat.le_refl _⟩, ⟨by first | exact Kd.R_nil _ _ _ _ _ | exact Kd.N_nil _ _ _ _ _ | exact Kd.V_nil _ _ _ _ _ | exact Kd.Q_nil _ _ _ _ _ | exact Kd.S_nil _ _ _ _ _⟩, ⟨bel_⟩⟩
  case round =>
   clear H'
   try clear c1
   try clear p2
   obtain ⟨x5_1, x9_1, rfl, HA, HK1, HO_5, HB⟩ := hrel
   cases gk with
   | zero => exact absurd HA.out (by simp [book_Merge.l0])
   | succ k1 =>
    have H := HA.out
    clear HA
    simp only [book_Merge.l0] at H
    by_cases c3 : x9_1 < 4
    rotate_left
    · rw [if_neg c3] at H
      have c3b0 : decide (x9_1 < 4) = false := decide_eq_false c3
      clear c3
      obtain rfl := Option.some.inj H
      go_wp2
      go_ret
      exact ⟨_, by first | rfl | (simp [errW_none, errW_some] <;> rfl) | (simp [*, errW_none, errW_some] <;> rfl), by (with_reducible repeat (first | apply Kd.R_alloc | apply Kd.R_drewN | apply Kd.R_drew)); exact HO_5.out, bel_⟩
    rw [if_pos c3] at H
    have c3b0 : decide (x9_1 < 4) = true := decide_eq_true c3
    clear c3
    replace H := Option.bind_eq_some_iff.mp H
    obtain ⟨⟨t233, t234, t235, t236⟩, A40, H⟩ := H
    replace H : ((book_find.f k1 l1 x9_1).bind fun bt237 => ((tag_Less.f k1 t234 t235 bt237.2.1 bt237.2.2.1).bind fun t243 => (if t243 = true then (if bt237.2.1 > 0 then (if x5_1.length < 4398046511104 then (book_Merge.l0 k1 l0 l1 (x5_1 ++ [(⟨bt237.1, (⟨bt237.2.1, bt237.2.2.1⟩ : S45), bt237.2.2.2⟩ : S48)]) (wrap64 (x9_1 + 1))) else (none)) else (book_Merge.l0 k1 l0 l1 x5_1 (wrap64 (x9_1 + 1)))) else (if t234 > 0 then (if x5_1.length < 4398046511104 then (book_Merge.l0 k1 l0 l1 (x5_1 ++ [(⟨t233, (⟨t234, t235⟩ : S45), t236⟩ : S48)]) (wrap64 (x9_1 + 1))) else (none)) else (book_Merge.l0 k1 l0 l1 x5_1 (wrap64 (x9_1 + 1))))))) = some r := H
    have A4 := zM A40
    clear A40
    replace H := Option.bind_eq_some_iff.mp H
    obtain ⟨⟨t237, t238, t239, t240⟩, A50, H⟩ := H
    replace H : ((tag_Less.f k1 t234 t235 t238 t239).bind fun t243 => (if t243 = true then (if t238 > 0 then (if x5_1.length < 4398046511104 then (book_Merge.l0 k1 l0 l1 (x5_1 ++ [(⟨t237, (⟨t238, t239⟩ : S45), t240⟩ : S48)]) (wrap64 (x9_1 + 1))) else (none)) else (book_Merge.l0 k1 l0 l1 x5_1 (wrap64 (x9_1 + 1)))) else (if t234 > 0 then (if x5_1.length < 4398046511104 then (book_Merge.l0 k1 l0 l1 (x5_1 ++ [(⟨t233, (⟨t234, t235⟩ : S45), t236⟩ : S48)]) (wrap64 (x9_1 + 1))) else (none)) else (book_Merge.l0 k1 l0 l1 x5_1 (wrap64 (x9_1 + 1)))))) = some r := H
    have A5 := zM A50
    clear A50
    go_upto_region 6 with (first | ((with_reducible refine gate_callee (f := 58) rfl ?_); refine goL_ (some 14) Try.func58 #[.slice A0 l0.length c0, .int .i64 x9_1] ?_; (with_reducible refine (book_find.calls k1 _ _ l0 x9_1 t233 t234 t235 t236 _ ?side1 ?side2 A4.out).mono ?_); (case side1 => repeat (first | exact (Kd.C_below HR0.out HB.out) | (with_reducible refine Kd.C_alloc ?_ _) | (with_reducible refine Kd.C_drewN ?_ _) | (with_reducible refine Kd.C_drew ?_))); (case side2 => exact HC0.out); rintro e w6 ⟨rfl, hb⟩; refine ⟨_, rfl, ?_⟩; replace HO_5 := zM (Kd.R_below (rl_ HO_5) hb); replace HB := zM (zB bel_ hb); (try clear hb); (try clear hb2); (try clear hk); (try clear hi)) | ((with_reducible refine gate_callee (f := 58) rfl ?_); refine goL_ (some 17) Try.func58 #[.slice A1 l1.length c1, .int .i64 x9_1] ?_; (with_reducible refine (book_find.calls k1 _ _ l1 x9_1 t237 t238 t239 t240 _ ?side1 ?side2 A5.out).mono ?_); (case side1 => repeat (first | exact (Kd.C_below HR1.out HB.out) | (with_reducible refine Kd.C_alloc ?_ _) | (with_reducible refine Kd.C_drewN ?_ _) | (with_reducible refine Kd.C_drew ?_))); (case side2 => exact HC1.out); rintro e w7 ⟨rfl, hb⟩; refine ⟨_, rfl, ?_⟩; replace HO_5 := zM (Kd.R_below (rl_ HO_5) hb); replace HB := zM (zB bel_ hb); (try clear hb); (try clear hb2); (try clear hk); (try clear hi)) | ((with_reducible refine gate_dst (N := 7) rfl ?_); refine box_event ?hg (N := 7) ?hd (cs := #[.int .i64 0, .int .i64 0, .int .i64 0, .float .f64 0]) (t := 48) ?hr ?_; (case hd => rfl); (case hg => rfl); (case hr => first | (go_simp; done) | (go_simp; rfl)); intro gb241 hg w8 hbox hb; replace HO_5 := zM (Kd.R_below (Kd.R_elderB (rl_ HO_5) gb241 (Nat.le_of_eq hg.symm)) hb); have BK241 := zM (hbox); have GW241 := zM (bs_ hg); have GE241 := zM (bs_ hg); replace HB := zM (zB bel_ hb); clear hb hbox hg) | ((with_reducible refine gate_dst (N := 8) rfl ?_); refine box_event ?hg (N := 8) ?hd (cs := #[.int .i64 0, .int .i64 0, .int .i64 0, .float .f64 0]) (t := 48) ?hr ?_; (case hd => rfl); (case hg => rfl); (case hr => first | (go_simp; done) | (go_simp; rfl)); intro gb242 hg w9 hbox hb; replace HO_5 := zM (Kd.R_below (Kd.R_elderB (rl_ HO_5) gb242 (Nat.le_of_eq hg.symm)) hb); have BK242 := zM (hbox); have GW242 := zM (bs_ hg); have GE242 := zM (bs_ hg); replace HB := zM (zB bel_ hb); have NB241_242 := zM (nl_ BK241 hg); have NB242_241 := zM (ng_ BK241 hg); replace BK241 := zM (bb_ BK241 hb); clear hb hbox hg; have hnb10 := NB241_242.out; have hnc10 := NB242_241.out; obtain ⟨hcz11_0, hcz11_1, hcz11_2, hcz11_3⟩ := r4_ BK241.out; obtain ⟨hfz11_0, hfz11_1, hfz11_2, hfz11_3⟩ := f4_ BK241.out; obtain ⟨hcz12_0, hcz12_1, hcz12_2, hcz12_3⟩ := r4_ BK242.out; obtain ⟨hfz12_0, hfz12_1, hfz12_2, hfz12_3⟩ := f4_ BK242.out) | ((with_reducible refine gate_store (t := 48) (p := 8) rfl ?_); refine store_event (t := 48) (p := 8) (v := ?vo_w13) (w1 := ((((((((w9.setCell ⟨gb241, 0, none⟩ (.int .i64 t233)).setCell ⟨gb241, 1, none⟩ (.int .i64 t234)).setCell ⟨gb241, 2, none⟩ (.int .i64 t235)).setCell ⟨gb241, 3, none⟩ (.float .f64 t236)).setCell ⟨gb242, 0, none⟩ (.int .i64 t237)).setCell ⟨gb242, 1, none⟩ (.int .i64 t238)).setCell ⟨gb242, 2, none⟩ (.int .i64 t239)).setCell ⟨gb242, 3, none⟩ (.float .f64 t240))) ?hg ?ho ?hn ?hr ?_; (case ho => rfl); (case hg => rfl); (case hn => rfl); (case hr => first | (go_simp; done) | (go_simp; rfl)); intro w13 hw; replace HO_5 : Aside0 (Kd.R k48 48 w13 w.heap.size (fun k_ => k_ ≠ gb241 ∧ k_ ≠ gb242) u5 x5_1) := ⟨(by rw [hw]; exact (by (with_reducible repeat (first | apply Kd.R_alloc | apply Kd.R_drewN | apply Kd.R_drew)); exact Kd.R_mono (Kd.R_far (p := ⟨gb242, 3, none⟩) (Kd.R_far (p := ⟨gb242, 2, none⟩) (Kd.R_far (p := ⟨gb242, 1, none⟩) (Kd.R_far (p := ⟨gb242, 0, none⟩) (Kd.R_far (p := ⟨gb241, 3, none⟩) (Kd.R_far (p := ⟨gb241, 2, none⟩) (Kd.R_far (p := ⟨gb241, 1, none⟩) (Kd.R_far (p := ⟨gb241, 0, none⟩) (Kd.R_mono (Kd.R_mono HO_5.out (fun k_ hk => (⟨hk, hk.1.2⟩ : _ ∧ k_ ≠ gb241))) (fun k_ hk => (⟨hk, hk.1.2⟩ : _ ∧ k_ ≠ gb242))) (fun _ hk => hk.1.2) (.int .i64 t233)) (fun _ hk => hk.1.2) (.int .i64 t234)) (fun _ hk => hk.1.2) (.int .i64 t235)) (fun _ hk => hk.1.2) (.float .f64 t236)) (fun _ hk => hk.2) (.int .i64 t237)) (fun _ hk => hk.2) (.int .i64 t238)) (fun _ hk => hk.2) (.int .i64 t239)) (fun _ hk => hk.2) (.float .f64 t240)) (fun _ hk => ⟨hk.1.1.1.2, hk.1.1.2⟩)))⟩; replace BK241 : Aside0 (w13.heap[gb241]? = some (.cells #[.int .i64 t233, .int .i64 t234, .int .i64 t235, .float .f64 t236] 48 (0, 0))) := ⟨(by rw [hw]; exact (by (with_reducible repeat (first | refine zN ?_ _ | refine zD ?_ | refine zA ?_ _)); refine blk_far ?_ NB241_242.out _; (with_reducible repeat (first | refine zN ?_ _ | refine zD ?_ | refine zA ?_ _)); refine blk_far ?_ NB241_242.out _; (with_reducible repeat (first | refine zN ?_ _ | refine zD ?_ | refine zA ?_ _)); refine blk_far ?_ NB241_242.out _; (with_reducible repeat (first | refine zN ?_ _ | refine zD ?_ | refine zA ?_ _)); refine blk_far ?_ NB241_242.out _; (with_reducible repeat (first | refine zN ?_ _ | refine zD ?_ | refine zA ?_ _)); refine blk_put (cs := #[.int .i64 t233, .int .i64 t234, .int .i64 t235, .float .f64 0]) ?_ 3 _ rfl; (with_reducible repeat (first | refine zN ?_ _ | refine zD ?_ | refine zA ?_ _)); refine blk_put (cs := #[.int .i64 t233, .int .i64 t234, .int .i64 0, .float .f64 0]) ?_ 2 _ rfl; (with_reducible repeat (first | refine zN ?_ _ | refine zD ?_ | refine zA ?_ _)); refine blk_put (cs := #[.int .i64 t233, .int .i64 0, .int .i64 0, .float .f64 0]) ?_ 1 _ rfl; (with_reducible repeat (first | refine zN ?_ _ | refine zD ?_ | refine zA ?_ _)); refine blk_put (cs := #[.int .i64 0, .int .i64 0, .int .i64 0, .float .f64 0]) ?_ 0 _ rfl; (with_reducible repeat (first | refine zN ?_ _ | refine zD ?_ | refine zA ?_ _)); exact BK241.out))⟩; replace BK242 : Aside0 (w13.heap[gb242]? = some (.cells #[.int .i64 t237, .int .i64 t238, .int .i64 t239, .float .f64 t240] 48 (0, 0))) := ⟨(by rw [hw]; exact (by (with_reducible repeat (first | refine zN ?_ _ | refine zD ?_ | refine zA ?_ _)); refine blk_put (cs := #[.int .i64 t237, .int .i64 t238, .int .i64 t239, .float .f64 0]) ?_ 3 _ rfl; (with_reducible repeat (first | refine zN ?_ _ | refine zD ?_ | refine zA ?_ _)); refine blk_put (cs := #[.int .i64 t237, .int .i64 t238, .int .i64 0, .float .f64 0]) ?_ 2 _ rfl; (with_reducible repeat (first | refine zN ?_ _ | refine zD ?_ | refine zA ?_ _)); refine blk_put (cs := #[.int .i64 t237, .int .i64 0, .int .i64 0, .float .f64 0]) ?_ 1 _ rfl; (with_reducible repeat (first | refine zN ?_ _ | refine zD ?_ | refine zA ?_ _)); refine blk_put (cs := #[.int .i64 0, .int .i64 0, .int .i64 0, .float .f64 0]) ?_ 0 _ rfl; (with_reducible repeat (first | refine zN ?_ _ | refine zD ?_ | refine zA ?_ _)); refine blk_far ?_ NB242_241.out _; (with_reducible repeat (first | refine zN ?_ _ | refine zD ?_ | refine zA ?_ _)); refine blk_far ?_ NB242_241.out _; (with_reducible repeat (first | refine zN ?_ _ | refine zD ?_ | refine zA ?_ _)); refine blk_far ?_ NB242_241.out _; (with_reducible repeat (first | refine zN ?_ _ | refine zD ?_ | refine zA ?_ _)); refine blk_far ?_ NB242_241.out _; (with_reducible repeat (first | refine zN ?_ _ | refine zD ?_ | refine zA ?_ _)); exact BK242.out))⟩; replace HB : Aside0 (Below w.heap.size w w13) := ⟨(by rw [hw]; exact bel_)⟩; clear hw))
    try clear hcz11_0
    try clear hcz11_1
    try clear hcz11_2
    try clear hcz11_3
    try clear hcz12_0
    try clear hcz12_1
    try clear hcz12_2
    try clear hcz12_3
    try clear hfz11_0
    try clear hfz11_1
    try clear hfz11_2
    try clear hfz11_3
    try clear hfz12_0
    try clear hfz12_1
    try clear hfz12_2
    try clear hfz12_3
    try clear hnb10
    try clear hnc10
    replace H := Option.bind_eq_some_iff.mp H
    obtain ⟨t243, A140, H⟩ := H
    replace H : (if t243 = true then (if t238 > 0 then (if x5_1.length < 4398046511104 then (book_Merge.l0 k1 l0 l1 (x5_1 ++ [(⟨t237, (⟨t238, t239⟩ : S45), t240⟩ : S48)]) (wrap64 (x9_1 + 1))) else (none)) else (book_Merge.l0 k1 l0 l1 x5_1 (wrap64 (x9_1 + 1)))) else (if t234 > 0 then (if x5_1.length < 4398046511104 then (book_Merge.l0 k1 l0 l1 (x5_1 ++ [(⟨t233, (⟨t234, t235⟩ : S45), t236⟩ : S48)]) (wrap64 (x9_1 + 1))) else (none)) else (book_Merge.l0 k1 l0 l1 x5_1 (wrap64 (x9_1 + 1))))) = some r := H
    have A14 := zM A140
    clear A140
    by_cases c15 : t243 = true
    rotate_left
    · replace c15 := Bool.eq_false_iff.mpr c15
      subst c15
      have H1 : (if t234 > 0 then (if x5_1.length < 4398046511104 then (book_Merge.l0 k1 l0 l1 (x5_1 ++ [(⟨t233, (⟨t234, t235⟩ : S45), t236⟩ : S48)]) (wrap64 (x9_1 + 1))) else (none)) else (book_Merge.l0 k1 l0 l1 x5_1 (wrap64 (x9_1 + 1)))) = some r := by rw [if_neg (show ¬ (false = true) by decide)] at H; exact H
      clear H
      have H := H1
      clear H1
      have hnb31 := NB241_242.out
      have hnc31 := NB242_241.out
      obtain ⟨hcz32_0, hcz32_1, hcz32_2, hcz32_3⟩ := r4_ BK241.out
      obtain ⟨hfz32_0, hfz32_1, hfz32_2, hfz32_3⟩ := f4_ BK241.out
      obtain ⟨hcz33_0, hcz33_1, hcz33_2, hcz33_3⟩ := r4_ BK242.out
      obtain ⟨hfz33_0, hfz33_1, hfz33_2, hfz33_3⟩ := f4_ BK242.out
      go_upto_region 8 with (first | ((with_reducible refine gate_callee (f := 75) rfl ?_); refine goL_ (some 22) Try.func75 #[.agg #[.int .i64 t234, .int .i64 t235], .agg #[.int .i64 t238, .int .i64 t239]] ?_; (with_reducible refine (tag_Less.calls k1 t234 t235 t238 t239 false _ A14.out).mono ?_); rintro e w34 ⟨rfl, hb⟩; refine ⟨_, rfl, ?_⟩; replace HO_5 := zM (Kd.R_below (rl_ HO_5) hb); replace BK241 := zM (bb_ BK241 hb); replace BK242 := zM (bb_ BK242 hb); replace HB := zM (zB bel_ hb); (try clear hb); (try clear hb2); (try clear hk); (try clear hi)))
      by_cases c35 : t234 > 0
      rotate_left
      · rw [if_neg c35] at H
        have c35b0 : decide (0 < t234) = false := decide_eq_false c35
        clear c35
        have H' := zM H
        clear H
        have hnb40 := NB241_242.out
        have hnc40 := NB242_241.out
        obtain ⟨hcz41_0, hcz41_1, hcz41_2, hcz41_3⟩ := r4_ BK241.out
        obtain ⟨hfz41_0, hfz41_1, hfz41_2, hfz41_3⟩ := f4_ BK241.out
        go_wp2
        go_roundg k1
        case measure => have := HK1.out; omega
        case rel => exact ⟨(x5_1), (wrap64 (x9_1 + 1)), (by first | rfl | (simp; done) | (simp [*]; done) | (simp; grind)), H', ⟨by have := HK1.out; omega⟩, ⟨by (with_reducible repeat (first | apply Kd.R_alloc | apply Kd.R_drewN | apply Kd.R_drew)); exact Kd.R_mono HO_5.out (fun _ hk => trivial)⟩, ⟨bel_⟩⟩
      rw [if_pos c35] at H
      have c35b0 : decide (0 < t234) = true := decide_eq_true c35
      clear c35
      by_cases c36 : x5_1.length < 4398046511104
      rotate_left
      · rw [if_neg c36] at H
        exact absurd H (by simp)
      rw [if_pos c36] at H
      have LMc36 := zM c36
      clear c36
      obtain ⟨y247, hy247⟩ : ∃ y_ : List (S48), y_ = (x5_1 ++ [(⟨t233, (⟨t234, t235⟩ : S45), t236⟩ : S48)]) := ⟨_, rfl⟩
      replace H : (book_Merge.l0 k1 l0 l1 y247 (wrap64 (x9_1 + 1))) = some r := by first | (rw [hy247]; with_reducible exact H) | (have H2_ := (Option.bind_some _ _).symm.trans H; rw [hy247]; with_reducible exact H2_) | (have H2_ := (Option.bind_some _ _).symm.trans H; with_reducible exact H2_) | with_reducible exact H | (rw [hy247]; exact H) | exact H
      have Ny247 := zM hy247
      clear hy247
      have hnb37 := NB241_242.out
      have hnc37 := NB242_241.out
      obtain ⟨hcz38_0, hcz38_1, hcz38_2, hcz38_3⟩ := r4_ BK241.out
      obtain ⟨hfz38_0, hfz38_1, hfz38_2, hfz38_3⟩ := f4_ BK241.out
      go_upto_region 10 with (first | ((with_reducible refine gate_builtin (b := .append) (xs := #[.tmp 28, .tmp 30]) rfl ?_); at_builtin; refine Kd.R_append k48 (w0 := w) w.heap.size rfl (.tmp 28) (.tmp 30) 25 48 (.agg #[(.int .i64 0), (.int .i64 0), (.int .i64 0), (.float .f64 0)]) 32 rfl Try.underlying25 info48 rfl (by decide) (by omega) u5 x5_1 (⟨t233, (⟨t234, t235⟩ : S45), t236⟩ : S48) [.int .i64 t233, .int .i64 t234, .int .i64 t235, .float .f64 t236] (fun k_ => k_ ≠ gb241 ∧ k_ ≠ gb242) (fun _ => False) rfl rfl ?aP (fun _ hk => hk.elim) ?aF ?aO ?aB ?aS ?aL ?_; (case aP => exact k48_mkM _ _ _ (⟨t233, (⟨t234, t235⟩ : S45), t236⟩ : S48)); (case aB => exact bel_); (case aF => exact (fun k_ hk => ⟨Kd.freshB (g := gb241) (o := .cells #[.int .i64 t233, .int .i64 t234, .int .i64 t235, .float .f64 t236] 48 (0, 0)) blk_ k_ hk, Kd.freshB (g := gb242) (o := .cells #[.int .i64 t237, .int .i64 t238, .int .i64 t239, .float .f64 t240] 48 (0, 0)) blk_ k_ hk⟩)); (case aO => exact (rl_ HO_5)); (case aS => exact (below_size bel_)); (case aL => have := LMc36.out; omega); intro v248 w39 ho hb hg hat; rw [← Ny247.out] at ho; have n0_ := zM (blk_grown (g := gb241) (o := .cells #[.int .i64 t233, .int .i64 t234, .int .i64 t235, .float .f64 t236] 48 (0, 0)) blk_ hg (Kd.R_away HO_5.out (fun _ hk => hk.1))); have n1_ := zM (blk_grown (g := gb242) (o := .cells #[.int .i64 t237, .int .i64 t238, .int .i64 t239, .float .f64 t240] 48 (0, 0)) blk_ hg (Kd.R_away HO_5.out (fun _ hk => hk.2))); have n2_ := zM (hb); have n3_ := zM (ho); clear BK241; clear BK242; clear HB; clear HO_5; have BK241 := n0_; have BK242 := n1_; have HB := n2_; have HO249 := n3_; clear n0_ n1_ n2_ n3_; clear ho hb hg hat))
      have H' := zM H
      clear H
      go_wp2
      go_roundg k1
      case measure => have := HK1.out; omega
      case rel => exact ⟨(y247), (wrap64 (x9_1 + 1)), (by first | rfl | (simp; done) | (simp [*]; done) | (simp; grind)), H', ⟨by have := HK1.out; omega⟩, ⟨by (with_reducible repeat (first | apply Kd.R_alloc | apply Kd.R_drewN | apply Kd.R_drew)); exact Kd.R_mono HO249.out (fun _ hk => trivial)⟩, ⟨bel_⟩⟩
    subst c15
    have H1 : (if t238 > 0 then (if x5_1.length < 4398046511104 then (book_Merge.l0 k1 l0 l1 (x5_1 ++ [(⟨t237, (⟨t238, t239⟩ : S45), t240⟩ : S48)]) (wrap64 (x9_1 + 1))) else (none)) else (book_Merge.l0 k1 l0 l1 x5_1 (wrap64 (x9_1 + 1)))) = some r := by rw [if_pos rfl] at H; exact H
    clear H
    have H := H1
    clear H1
    have hnb16 := NB241_242.out
    have hnc16 := NB242_241.out
    obtain ⟨hcz17_0, hcz17_1, hcz17_2, hcz17_3⟩ := r4_ BK241.out
    obtain ⟨hfz17_0, hfz17_1, hfz17_2, hfz17_3⟩ := f4_ BK241.out
    obtain ⟨hcz18_0, hcz18_1, hcz18_2, hcz18_3⟩ := r4_ BK242.out
    obtain ⟨hfz18_0, hfz18_1, hfz18_2, hfz18_3⟩ := f4_ BK242.out
    go_upto_region 7 with (first | ((with_reducible refine gate_callee (f := 75) rfl ?_); refine goL_ (some 22) Try.func75 #[.agg #[.int .i64 t234, .int .i64 t235], .agg #[.int .i64 t238, .int .i64 t239]] ?_; (with_reducible refine (tag_Less.calls k1 t234 t235 t238 t239 true _ A14.out).mono ?_); rintro e w19 ⟨rfl, hb⟩; refine ⟨_, rfl, ?_⟩; replace HO_5 := zM (Kd.R_below (rl_ HO_5) hb); replace BK241 := zM (bb_ BK241 hb); replace BK242 := zM (bb_ BK242 hb); replace HB := zM (zB bel_ hb); (try clear hb); (try clear hb2); (try clear hk); (try clear hi)))
    have hnb20 := NB242_241.out
    have hnc20 := NB241_242.out
    obtain ⟨hcz21_0, hcz21_1, hcz21_2, hcz21_3⟩ := r4_ BK242.out
    obtain ⟨hfz21_0, hfz21_1, hfz21_2, hfz21_3⟩ := f4_ BK242.out
    obtain ⟨hcz22_0, hcz22_1, hcz22_2, hcz22_3⟩ := r4_ BK241.out
    obtain ⟨hfz22_0, hfz22_1, hfz22_2, hfz22_3⟩ := f4_ BK241.out
    go_upto_region 8 with (first | ((with_reducible refine gate_store (t := 48) (p := 7) rfl ?_); refine store_event (t := 48) (p := 7) (v := ?vo_w23) (w1 := ((((w19.setCell ⟨gb241, 0, none⟩ (.int .i64 t237)).setCell ⟨gb241, 1, none⟩ (.int .i64 t238)).setCell ⟨gb241, 2, none⟩ (.int .i64 t239)).setCell ⟨gb241, 3, none⟩ (.float .f64 t240))) ?hg ?ho ?hn ?hr ?_; (case ho => rfl); (case hg => rfl); (case hn => rfl); (case hr => first | (go_simp; done) | (go_simp; rfl)); intro w23 hw; replace HO_5 : Aside0 (Kd.R k48 48 w23 w.heap.size (fun k_ => k_ ≠ gb241 ∧ k_ ≠ gb242) u5 x5_1) := ⟨(by rw [hw]; exact (by (with_reducible repeat (first | apply Kd.R_alloc | apply Kd.R_drewN | apply Kd.R_drew)); exact Kd.R_mono (Kd.R_far (p := ⟨gb241, 3, none⟩) (Kd.R_far (p := ⟨gb241, 2, none⟩) (Kd.R_far (p := ⟨gb241, 1, none⟩) (Kd.R_far (p := ⟨gb241, 0, none⟩) (Kd.R_mono HO_5.out (fun k_ hk => (⟨hk, hk.1⟩ : _ ∧ k_ ≠ gb241))) (fun _ hk => hk.2) (.int .i64 t237)) (fun _ hk => hk.2) (.int .i64 t238)) (fun _ hk => hk.2) (.int .i64 t239)) (fun _ hk => hk.2) (.float .f64 t240)) (fun _ hk => ⟨hk.1.1, hk.1.2⟩)))⟩; replace BK242 : Aside0 (w23.heap[gb242]? = some (.cells #[.int .i64 t237, .int .i64 t238, .int .i64 t239, .float .f64 t240] 48 (0, 0))) := ⟨(by rw [hw]; exact blf_)⟩; replace BK241 : Aside0 (w23.heap[gb241]? = some (.cells #[.int .i64 t237, .int .i64 t238, .int .i64 t239, .float .f64 t240] 48 (0, 0))) := ⟨(by rw [hw]; exact (by (with_reducible repeat (first | refine zN ?_ _ | refine zD ?_ | refine zA ?_ _)); exact fx4_ BK241))⟩; replace HB : Aside0 (Below w.heap.size w w23) := ⟨(by rw [hw]; exact bel_)⟩; clear hw))
    by_cases c24 : t238 > 0
    rotate_left
    · rw [if_neg c24] at H
      have c24b0 : decide (0 < t238) = false := decide_eq_false c24
      clear c24
      have H' := zM H
      clear H
      have hnb29 := NB241_242.out
      have hnc29 := NB242_241.out
      obtain ⟨hcz30_0, hcz30_1, hcz30_2, hcz30_3⟩ := r4_ BK241.out
      obtain ⟨hfz30_0, hfz30_1, hfz30_2, hfz30_3⟩ := f4_ BK241.out
      go_wp2
      go_roundg k1
      case measure => have := HK1.out; omega
      case rel => exact ⟨(x5_1), (wrap64 (x9_1 + 1)), (by first | rfl | (simp; done) | (simp [*]; done) | (simp; grind)), H', ⟨by have := HK1.out; omega⟩, ⟨by (with_reducible repeat (first | apply Kd.R_alloc | apply Kd.R_drewN | apply Kd.R_drew)); exact Kd.R_mono HO_5.out (fun _ hk => trivial)⟩, ⟨bel_⟩⟩
    rw [if_pos c24] at H
    have c24b0 : decide (0 < t238) = true := decide_eq_true c24
    clear c24
    by_cases c25 : x5_1.length < 4398046511104
    rotate_left
    · rw [if_neg c25] at H
      exact absurd H (by simp)
    rw [if_pos c25] at H
    have LMc25 := zM c25
    clear c25
    obtain ⟨y244, hy244⟩ : ∃ y_ : List (S48), y_ = (x5_1 ++ [(⟨t237, (⟨t238, t239⟩ : S45), t240⟩ : S48)]) := ⟨_, rfl⟩
    replace H : (book_Merge.l0 k1 l0 l1 y244 (wrap64 (x9_1 + 1))) = some r := by first | (rw [hy244]; with_reducible exact H) | (have H2_ := (Option.bind_some _ _).symm.trans H; rw [hy244]; with_reducible exact H2_) | (have H2_ := (Option.bind_some _ _).symm.trans H; with_reducible exact H2_) | with_reducible exact H | (rw [hy244]; exact H) | exact H
    have Ny244 := zM hy244
    clear hy244
    have hnb26 := NB241_242.out
    have hnc26 := NB242_241.out
    obtain ⟨hcz27_0, hcz27_1, hcz27_2, hcz27_3⟩ := r4_ BK241.out
    obtain ⟨hfz27_0, hfz27_1, hfz27_2, hfz27_3⟩ := f4_ BK241.out
    go_upto_region 10 with (first | ((with_reducible refine gate_builtin (b := .append) (xs := #[.tmp 28, .tmp 30]) rfl ?_); at_builtin; refine Kd.R_append k48 (w0 := w) w.heap.size rfl (.tmp 28) (.tmp 30) 25 48 (.agg #[(.int .i64 0), (.int .i64 0), (.int .i64 0), (.float .f64 0)]) 32 rfl Try.underlying25 info48 rfl (by decide) (by omega) u5 x5_1 (⟨t237, (⟨t238, t239⟩ : S45), t240⟩ : S48) [.int .i64 t237, .int .i64 t238, .int .i64 t239, .float .f64 t240] (fun k_ => k_ ≠ gb241 ∧ k_ ≠ gb242) (fun _ => False) rfl rfl ?aP (fun _ hk => hk.elim) ?aF ?aO ?aB ?aS ?aL ?_; (case aP => exact k48_mkM _ _ _ (⟨t237, (⟨t238, t239⟩ : S45), t240⟩ : S48)); (case aB => exact bel_); (case aF => exact (fun k_ hk => ⟨Kd.freshB (g := gb241) (o := .cells #[.int .i64 t237, .int .i64 t238, .int .i64 t239, .float .f64 t240] 48 (0, 0)) blk_ k_ hk, Kd.freshB (g := gb242) (o := .cells #[.int .i64 t237, .int .i64 t238, .int .i64 t239, .float .f64 t240] 48 (0, 0)) blk_ k_ hk⟩)); (case aO => exact (rl_ HO_5)); (case aS => exact (below_size bel_)); (case aL => have := LMc25.out; omega); intro v245 w28 ho hb hg hat; rw [← Ny244.out] at ho; have n0_ := zM (blk_grown (g := gb241) (o := .cells #[.int .i64 t237, .int .i64 t238, .int .i64 t239, .float .f64 t240] 48 (0, 0)) blk_ hg (Kd.R_away HO_5.out (fun _ hk => hk.1))); have n1_ := zM (blk_grown (g := gb242) (o := .cells #[.int .i64 t237, .int .i64 t238, .int .i64 t239, .float .f64 t240] 48 (0, 0)) blk_ hg (Kd.R_away HO_5.out (fun _ hk => hk.2))); have n2_ := zM (hb); have n3_ := zM (ho); clear BK241; clear BK242; clear HB; clear HO_5; have BK241 := n0_; have BK242 := n1_; have HB := n2_; have HO246 := n3_; clear n0_ n1_ n2_ n3_; clear ho hb hg hat))
    have H' := zM H
    clear H
    go_wp2
    go_roundg k1
    case measure => have := HK1.out; omega
    case rel => exact ⟨(y244), (wrap64 (x9_1 + 1)), (by first | rfl | (simp; done) | (simp [*]; done) | (simp; grind)), H', ⟨by have := HK1.out; omega⟩, ⟨by (with_reducible repeat (first | apply Kd.R_alloc | apply Kd.R_drewN | apply Kd.R_drew)); exact Kd.R_mono HO246.out (fun _ hk => trivial)⟩, ⟨bel_⟩⟩
/-! ### round_Round_Who: function 14 -/
def round_Round_Who.l0 : Nat → List Int → Int → Bool → Bool → Bool → Bool → Bool → Bool → Option (List Int)
  | 0, _, _, _, _, _, _, _, _ => none
  | k + 1, x3, x10, x700, x701, x702, x703, x704, x705 => if x10 < 6 then (if 0 ≤ x10 then (if rdOf false [x700, x701, x702, x703, x704, x705] x10 = true then (if x3.length < 17592186044416 then (round_Round_Who.l0 k (x3 ++ [x10]) (wrap64 (x10 + 1)) x700 x701 x702 x703 x704 x705) else (none)) else (round_Round_Who.l0 k x3 (wrap64 (x10 + 1)) x700 x701 x702 x703 x704 x705)) else (none)) else (some x3)
def round_Round_Who.f (k : Nat) (a0_0 : Int) (a0_1 : Int) (a0_2 : Int) (a0_3 : Int) (a0_4 : Int) (a0_5 : Int) (a0_6 : Int) (l0_7 : List (S43)) (l0_8 : List (S48)) (a0_9 : Bool) (a0_10 : Bool) (a0_11 : Bool) (a0_12 : Bool) (a0_13 : Bool) (a0_14 : Bool) (l0_15 : List (S43)) (l0_16 : List (S48)) : Option (List Int) := round_Round_Who.l0 k ([] : List Int) 0 a0_9 a0_10 a0_11 a0_12 a0_13 a0_14
theorem round_Round_Who.mono_l : ∀ k, (∀ y0 y1 y2 y3 y4 y5 y6 y7, LeO (round_Round_Who.l0 k y0 y1 y2 y3 y4 y5 y6 y7) (round_Round_Who.l0 (k + 1) y0 y1 y2 y3 y4 y5 y6 y7))
  | 0 => fun _ _ _ _ _ _ _ _ r h => by simp [round_Round_Who.l0] at h
  | k + 1 => by
    have ih0 := round_Round_Who.mono_l k
    · intro y0 y1 y2 y3 y4 y5 y6 y7
      unfold round_Round_Who.l0
      repeat' first
      | (with_reducible exact ih0 _ _ _ _ _ _ _ _)
      | (with_reducible exact LeO.refl _)
      | (with_reducible exact LeO.none _)
      | (with_reducible refine LeO.ite ?_ ?_)
      | (with_reducible refine LeO.bind ?_ (fun _ => ?_))
      | exact ih0 _ _ _ _ _ _ _ _
      | exact LeO.none _
      | refine LeO.ite ?_ ?_
      | refine LeO.bind ?_ (fun _ => ?_)
theorem round_Round_Who.mono : ∀ a0 a1 a2 a3 a4 a5 a6 a7 a8 a9 a10 a11 a12 a13 a14 a15 a16 k, LeO (round_Round_Who.f k a0 a1 a2 a3 a4 a5 a6 a7 a8 a9 a10 a11 a12 a13 a14 a15 a16) (round_Round_Who.f (k + 1) a0 a1 a2 a3 a4 a5 a6 a7 a8 a9 a10 a11 a12 a13 a14 a15 a16) := by
  intro a0 a1 a2 a3 a4 a5 a6 a7 a8 a9 a10 a11 a12 a13 a14 a15 a16 k
  have ih0 := round_Round_Who.mono_l k
  unfold round_Round_Who.f
  repeat' first
      | (with_reducible exact ih0 _ _ _ _ _ _ _ _)
      | (with_reducible exact LeO.refl _)
      | (with_reducible exact LeO.none _)
      | (with_reducible refine LeO.ite ?_ ?_)
      | (with_reducible refine LeO.bind ?_ (fun _ => ?_))
      | exact ih0 _ _ _ _ _ _ _ _
      | exact LeO.none _
      | refine LeO.ite ?_ ?_
      | refine LeO.bind ?_ (fun _ => ?_)
set_option maxHeartbeats 8000000 in
set_option maxRecDepth 100000 in
theorem round_Round_Who.calls (k : Nat) (g0_0 : Nat) (a0_0 : Int) (a0_1 : Int) (a0_2 : Int) (a0_3 : Int) (a0_4 : Int) (a0_5 : Int) (a0_6 : Int) (A0_7 : Option Addr) (c0_7 : Nat) (l0_7 : List (S43)) (A0_8 : Option Addr) (c0_8 : Nat) (l0_8 : List (S48)) (a0_9 : Bool) (a0_10 : Bool) (a0_11 : Bool) (a0_12 : Bool) (a0_13 : Bool) (a0_14 : Bool) (A0_15 : Option Addr) (c0_15 : Nat) (l0_15 : List (S43)) (A0_16 : Option Addr) (c0_16 : Nat) (l0_16 : List (S48)) (r : List Int) (w : World) (hr0_7 : Kd.C k43 w A0_7 l0_7.length l0_7) (hc0_7 : l0_7.length ≤ c0_7) (hr0_8 : Kd.C k48 w A0_8 l0_8.length l0_8) (hc0_8 : l0_8.length ≤ c0_8) (hr0_15 : Kd.C k43 w A0_15 l0_15.length l0_15) (hc0_15 : l0_15.length ≤ c0_15) (hr0_16 : Kd.C k48 w A0_16 l0_16.length l0_16) (hc0_16 : l0_16.length ≤ c0_16) (hb0_0 : w.heap[g0_0]? = some (.cells #[.int .i64 a0_0, .int .i64 a0_1, .int .i64 a0_2, .int .i64 a0_3, .int .i64 a0_4, .int .i64 a0_5, .int .i64 a0_6, .slice A0_7 l0_7.length c0_7, .slice A0_8 l0_8.length c0_8, .bool a0_9, .bool a0_10, .bool a0_11, .bool a0_12, .bool a0_13, .bool a0_14, .slice A0_15 l0_15.length c0_15, .slice A0_16 l0_16.length c0_16] 71 (0, 0))) (h : round_Round_Who.f k a0_0 a0_1 a0_2 a0_3 a0_4 a0_5 a0_6 l0_7 l0_8 a0_9 a0_10 a0_11 a0_12 a0_13 a0_14 l0_15 l0_16 = some r) :
    Calls Try.prog 14 #[.pointer (some ⟨g0_0, 0, none⟩)] w fun e w' => ∃ v0_ : Value, e = .returned (v0_) ∧ Kd.R (Kd.int .i64) 3 w' w.heap.size (fun _ => True) v0_ r ∧ Below w.heap.size w w' := by
  have hu67 := Try.underlying67
  have HR0_7 := zM hr0_7
  have HC0_7 := zM hc0_7
  clear hr0_7 hc0_7
  have HR0_8 := zM hr0_8
  have HC0_8 := zM hc0_8
  clear hr0_8 hc0_8
  have HR0_15 := zM hr0_15
  have HC0_15 := zM hc0_15
  clear hr0_15 hc0_15
  have HR0_16 := zM hr0_16
  have HC0_16 := zM hc0_16
  clear hr0_16 hc0_16
  have BK40 := zM hb0_0
  clear hb0_0
  have HB := zM (Below.refl w.heap.size w)
  have H : (round_Round_Who.l0 k ([] : List Int) 0 a0_9 a0_10 a0_11 a0_12 a0_13 a0_14) = some r := h
  clear h
  have H' := zM H
  clear H
  have hcz2_0 : w.cell? ⟨g0_0, 0, none⟩ = some (.int .i64 a0_0) := (zL BK40.out 0).trans rfl
  have hcz2_1 : w.cell? ⟨g0_0, 1, none⟩ = some (.int .i64 a0_1) := (zL BK40.out 1).trans rfl
  have hcz2_2 : w.cell? ⟨g0_0, 2, none⟩ = some (.int .i64 a0_2) := (zL BK40.out 2).trans rfl
  have hcz2_3 : w.cell? ⟨g0_0, 3, none⟩ = some (.int .i64 a0_3) := (zL BK40.out 3).trans rfl
  have hcz2_4 : w.cell? ⟨g0_0, 4, none⟩ = some (.int .i64 a0_4) := (zL BK40.out 4).trans rfl
  have hcz2_5 : w.cell? ⟨g0_0, 5, none⟩ = some (.int .i64 a0_5) := (zL BK40.out 5).trans rfl
  have hcz2_6 : w.cell? ⟨g0_0, 6, none⟩ = some (.int .i64 a0_6) := (zL BK40.out 6).trans rfl
  have hcz2_7 : w.cell? ⟨g0_0, 7, none⟩ = some (.slice A0_7 l0_7.length c0_7) := (zL BK40.out 7).trans rfl
  have hcz2_8 : w.cell? ⟨g0_0, 8, none⟩ = some (.slice A0_8 l0_8.length c0_8) := (zL BK40.out 8).trans rfl
  have hcz2_9 : w.cell? ⟨g0_0, 9, none⟩ = some (.bool a0_9) := (zL BK40.out 9).trans rfl
  have hcz2_10 : w.cell? ⟨g0_0, 10, none⟩ = some (.bool a0_10) := (zL BK40.out 10).trans rfl
  have hcz2_11 : w.cell? ⟨g0_0, 11, none⟩ = some (.bool a0_11) := (zL BK40.out 11).trans rfl
  have hcz2_12 : w.cell? ⟨g0_0, 12, none⟩ = some (.bool a0_12) := (zL BK40.out 12).trans rfl
  have hcz2_13 : w.cell? ⟨g0_0, 13, none⟩ = some (.bool a0_13) := (zL BK40.out 13).trans rfl
  have hcz2_14 : w.cell? ⟨g0_0, 14, none⟩ = some (.bool a0_14) := (zL BK40.out 14).trans rfl
  have hcz2_15 : w.cell? ⟨g0_0, 15, none⟩ = some (.slice A0_15 l0_15.length c0_15) := (zL BK40.out 15).trans rfl
  have hcz2_16 : w.cell? ⟨g0_0, 16, none⟩ = some (.slice A0_16 l0_16.length c0_16) := (zL BK40.out 16).trans rfl
  obtain ⟨hfz2_0, hfz2_1, hfz2_2, hfz2_3, hfz2_4, hfz2_5, hfz2_6, hfz2_7, hfz2_8, hfz2_9, hfz2_10, hfz2_11, hfz2_12, hfz2_13, hfz2_14, hfz2_15, hfz2_16⟩ := f17_ BK40.out
  go_enter Try.func14, Try.ntmps14
  go_wp2
  go_loopg [3, 10] k (fun kq v3 v10 w' => ∃ (x3_1 : List Int) (x10_1 : Int), v10 = .int .i64 x10_1 ∧ Aside0 (round_Round_Who.l0 kq x3_1 x10_1 a0_9 a0_10 a0_11 a0_12 a0_13 a0_14 = some r) ∧ Aside0 (kq ≤ k) ∧ Aside0 (Kd.R (Kd.int .i64) 3 w' w.heap.size (fun _ => True) v3 x3_1) ∧ Aside0 (w'.heap[g0_0]? = some (.cells #[.int .i64 a0_0, .int .i64 a0_1, .int .i64 a0_2, .int .i64 a0_3, .int .i64 a0_4, .int .i64 a0_5, .int .i64 a0_6, (.slice A0_7 l0_7.length c0_7), (.slice A0_8 l0_8.length c0_8), .bool a0_9, .bool a0_10, .bool a0_11, .bool a0_12, .bool a0_13, .bool a0_14, (.slice A0_15 l0_15.length c0_15), (.slice A0_16 l0_16.length c0_16)] 71 (0, 0))) ∧ Aside0 (Below w.heap.size w w'))
  case atStart => exact ⟨(([] : List Int)), (0), (by first | rfl | (simp; done) | (simp [*]; done) | (simp; grind)), H', ⟨Nat.le_refl _⟩, ⟨by first | exact Kd.R_nil _ _ _ _ _ | exact Kd.N_nil _ _ _ _ _ | exact Kd.V_nil _ _ _ _ _ | exact Kd.Q_nil _ _ _ _ _ | exact Kd.S_nil _ _ _ _ _⟩, ⟨blf_⟩, ⟨bel_⟩⟩
  case round =>
   clear H'
   try clear c1
   try clear p2
   try clear hcz2_0
   try clear hcz2_1
   try clear hcz2_10
   try clear hcz2_11
   try clear hcz2_12
   try clear hcz2_13
   try clear hcz2_14
   try clear hcz2_15
   try clear hcz2_16
   try clear hcz2_2
   try clear hcz2_3
   try clear hcz2_4
   try clear hcz2_5
   try clear hcz2_6
   try clear hcz2_7
   try clear hcz2_8
   try clear hcz2_9
   try clear hfz2_0
   try clear hfz2_1
   try clear hfz2_10
   try clear hfz2_11
   try clear hfz2_12
   try clear hfz2_13
   try clear hfz2_14
   try clear hfz2_15
   try clear hfz2_16
   try clear hfz2_2
   try clear hfz2_3
   try clear hfz2_4
   try clear hfz2_5
   try clear hfz2_6
   try clear hfz2_7
   try clear hfz2_8
   try clear hfz2_9
   obtain ⟨x3_1, x10_1, rfl, HA, HK1, HO_3, BK40, HB⟩ := hrel
   cases gk with
   | zero => exact absurd HA.out (by simp [round_Round_Who.l0])
   | succ k1 =>
    have H := HA.out
    clear HA
    simp only [round_Round_Who.l0] at H
    by_cases c3 : x10_1 < 6
    rotate_left
    · rw [if_neg c3] at H
      have c3b0 : decide (x10_1 < 6) = false := decide_eq_false c3
      clear c3
      obtain rfl := Option.some.inj H
      go_wp2
      go_ret
      exact ⟨_, by first | rfl | (simp [errW_none, errW_some] <;> rfl) | (simp [*, errW_none, errW_some] <;> rfl), by (with_reducible repeat (first | apply Kd.R_alloc | apply Kd.R_drewN | apply Kd.R_drew)); exact HO_3.out, bel_⟩
    rw [if_pos c3] at H
    have c3b0 : decide (x10_1 < 6) = true := decide_eq_true c3
    clear c3
    by_cases c4 : 0 ≤ x10_1
    rotate_left
    · rw [if_neg c4] at H
      exact absurd H (by simp)
    rw [if_pos c4] at H
    have c4b0 : decide (0 ≤ x10_1) = true := decide_eq_true c4
    clear c4
    obtain ⟨bq5, hbq5⟩ : ∃ b_ : Bool, b_ = (rdOf false [a0_9, a0_10, a0_11, a0_12, a0_13, a0_14] x10_1) := ⟨_, rfl⟩
    replace H : (if bq5 = true then (if x3_1.length < 17592186044416 then (round_Round_Who.l0 k1 (x3_1 ++ [x10_1]) (wrap64 (x10_1 + 1)) a0_9 a0_10 a0_11 a0_12 a0_13 a0_14) else (none)) else (round_Round_Who.l0 k1 x3_1 (wrap64 (x10_1 + 1)) a0_9 a0_10 a0_11 a0_12 a0_13 a0_14)) = some r := by rw [← hbq5] at H; exact H
    have Nbq5 := zM hbq5
    clear hbq5
    by_cases c6 : bq5 = true
    rotate_left
    · replace c6 := Bool.eq_false_iff.mpr c6
      subst c6
      have H1 : (round_Round_Who.l0 k1 x3_1 (wrap64 (x10_1 + 1)) a0_9 a0_10 a0_11 a0_12 a0_13 a0_14) = some r := by rw [if_neg (show ¬ (false = true) by decide)] at H; exact H
      clear H
      have H := H1
      clear H1
      have H' := zM H
      clear H
      have pa10 : 0 ≤ (x10_1 : Int) := (of_decide_eq_true (by first | (with_reducible assumption) | assumption))
      have qa10 : (x10_1 : Int) < 6 := (of_decide_eq_true (by first | (with_reducible assumption) | assumption))
      have ha10 := px_aidx67 a0_9 a0_10 a0_11 a0_12 a0_13 a0_14 x10_1 pa10 qa10
      (try rw [← Nbq5.out] at ha10)
      clear pa10 qa10
      go_wp2
      go_roundg k1
      case measure => have := HK1.out; omega
      case rel => exact ⟨(x3_1), (wrap64 (x10_1 + 1)), (by first | rfl | (simp; done) | (simp [*]; done) | (simp; grind)), H', ⟨by have := HK1.out; omega⟩, ⟨by (with_reducible repeat (first | apply Kd.R_alloc | apply Kd.R_drewN | apply Kd.R_drew)); exact HO_3.out⟩, ⟨blf_⟩, ⟨bel_⟩⟩
    subst c6
    have H1 : (if x3_1.length < 17592186044416 then (round_Round_Who.l0 k1 (x3_1 ++ [x10_1]) (wrap64 (x10_1 + 1)) a0_9 a0_10 a0_11 a0_12 a0_13 a0_14) else (none)) = some r := by rw [if_pos rfl] at H; exact H
    clear H
    have H := H1
    clear H1
    by_cases c7 : x3_1.length < 17592186044416
    rotate_left
    · rw [if_neg c7] at H
      exact absurd H (by simp)
    rw [if_pos c7] at H
    have LMc7 := zM c7
    clear c7
    obtain ⟨y250, hy250⟩ : ∃ y_ : List Int, y_ = (x3_1 ++ [x10_1]) := ⟨_, rfl⟩
    replace H : (round_Round_Who.l0 k1 y250 (wrap64 (x10_1 + 1)) a0_9 a0_10 a0_11 a0_12 a0_13 a0_14) = some r := by first | (rw [hy250]; with_reducible exact H) | (have H2_ := (Option.bind_some _ _).symm.trans H; rw [hy250]; with_reducible exact H2_) | (have H2_ := (Option.bind_some _ _).symm.trans H; with_reducible exact H2_) | with_reducible exact H | (rw [hy250]; exact H) | exact H
    have Ny250 := zM hy250
    clear hy250
    have H' := zM H
    clear H
    have pa8 : 0 ≤ (x10_1 : Int) := (of_decide_eq_true (by first | (with_reducible assumption) | assumption))
    have qa8 : (x10_1 : Int) < 6 := (of_decide_eq_true (by first | (with_reducible assumption) | assumption))
    have ha8 := px_aidx67 a0_9 a0_10 a0_11 a0_12 a0_13 a0_14 x10_1 pa8 qa8
    (try rw [← Nbq5.out] at ha8)
    clear pa8 qa8
    go_wp2_with (first | ((with_reducible refine gate_builtin (b := .append) (xs := #[.tmp 15, .tmp 17]) rfl ?_); at_builtin; refine Kd.R_append (Kd.int .i64) (w0 := w) w.heap.size rfl (.tmp 15) (.tmp 17) 34 3 (.int .i64 0) 8 rfl Try.underlying34 info3 rfl (by decide) (by omega) u3 x3_1 x10_1 [.int .i64 x10_1] (fun _ => True) (fun _ => False) rfl rfl ?aP (fun _ hk => hk.elim) ?aF ?aO ?aB ?aS ?aL ?_; (case aP => exact rfl); (case aB => exact bel_); (case aF => exact (fun _ _ => trivial)); (case aO => exact (rl_ HO_3)); (case aS => exact (below_size bel_)); (case aL => have := LMc7.out; omega); intro v251 w9 ho hb hg hat; rw [← Ny250.out] at ho; replace BK40 := zM (blk_grown (g := g0_0) (o := .cells #[.int .i64 a0_0, .int .i64 a0_1, .int .i64 a0_2, .int .i64 a0_3, .int .i64 a0_4, .int .i64 a0_5, .int .i64 a0_6, .slice A0_7 l0_7.length c0_7, .slice A0_8 l0_8.length c0_8, .bool a0_9, .bool a0_10, .bool a0_11, .bool a0_12, .bool a0_13, .bool a0_14, .slice A0_15 l0_15.length c0_15, .slice A0_16 l0_16.length c0_16] 71 (0, 0)) blk_ hg (Kd.R_ne HO_3.out BK40.out (by decide))); replace HB := zM (hb); have HO252 := zM (ho); clear HO_3; clear ho hb hg hat))
    go_roundg k1
    case measure => have := HK1.out; omega
    case rel => exact ⟨(y250), (wrap64 (x10_1 + 1)), (by first | rfl | (simp; done) | (simp [*]; done) | (simp; grind)), H', ⟨by have := HK1.out; omega⟩, ⟨by (with_reducible repeat (first | apply Kd.R_alloc | apply Kd.R_drewN | apply Kd.R_drew)); exact HO252.out⟩, ⟨blf_⟩, ⟨bel_⟩⟩
/-! ### view_Members: function 16 -/
def view_Members.l0 : Nat → List Int → Int → Int → Int → Option (List Int)
  | 0, _, _, _, _ => none
  | k + 1, x3, x5, x254000, x254001 => if x5 < 6 then ((view_In.f x254000 x254001 x5).bind fun t254 => (if t254 = true then (if x3.length < 17592186044416 then (view_Members.l0 k (x3 ++ [x5]) (wrap64 (x5 + 1)) x254000 x254001) else (none)) else (view_Members.l0 k x3 (wrap64 (x5 + 1)) x254000 x254001))) else (some x3)
def view_Members.f (k : Nat) (a0_0 : Int) (a0_1 : Int) : Option (List Int) := view_Members.l0 k ([] : List Int) 0 a0_0 a0_1
theorem view_Members.mono_l : ∀ k, (∀ y0 y1 y2 y3, LeO (view_Members.l0 k y0 y1 y2 y3) (view_Members.l0 (k + 1) y0 y1 y2 y3))
  | 0 => fun _ _ _ _ r h => by simp [view_Members.l0] at h
  | k + 1 => by
    have ih0 := view_Members.mono_l k
    · intro y0 y1 y2 y3
      unfold view_Members.l0
      repeat' first
      | (with_reducible exact ih0 _ _ _ _)
      | (with_reducible exact LeO.refl _)
      | (with_reducible exact LeO.none _)
      | (with_reducible refine LeO.ite ?_ ?_)
      | (with_reducible refine LeO.bind ?_ (fun _ => ?_))
      | exact ih0 _ _ _ _
      | exact LeO.none _
      | refine LeO.ite ?_ ?_
      | refine LeO.bind ?_ (fun _ => ?_)
theorem view_Members.mono : ∀ a0 a1 k, LeO (view_Members.f k a0 a1) (view_Members.f (k + 1) a0 a1) := by
  intro a0 a1 k
  have ih0 := view_Members.mono_l k
  unfold view_Members.f
  repeat' first
      | (with_reducible exact ih0 _ _ _ _)
      | (with_reducible exact LeO.refl _)
      | (with_reducible exact LeO.none _)
      | (with_reducible refine LeO.ite ?_ ?_)
      | (with_reducible refine LeO.bind ?_ (fun _ => ?_))
      | exact ih0 _ _ _ _
      | exact LeO.none _
      | refine LeO.ite ?_ ?_
      | refine LeO.bind ?_ (fun _ => ?_)
set_option maxHeartbeats 8000000 in
set_option maxRecDepth 100000 in
theorem view_Members.calls (k : Nat) (a0_0 : Int) (a0_1 : Int) (r : List Int) (w : World) (h : view_Members.f k a0_0 a0_1 = some r) :
    Calls Try.prog 16 #[.agg #[.int .i64 a0_0, .int .i64 a0_1]] w fun e w' => ∃ v0_ : Value, e = .returned (v0_) ∧ Kd.R (Kd.int .i64) 3 w' w.heap.size (fun _ => True) v0_ r ∧ Below w.heap.size w w' := by
  have hu23 := Try.underlying23
  have HB := zM (Below.refl w.heap.size w)
  have H : (view_Members.l0 k ([] : List Int) 0 a0_0 a0_1) = some r := h
  clear h
  have H' := zM H
  clear H
  go_enter Try.func16, Try.ntmps16
  go_wp2_with (first | ((with_reducible refine gate_dst (N := 1) rfl ?_); refine box_event ?hg (N := 1) ?hd (cs := #[.int .i64 a0_0, .int .i64 a0_1]) (t := 23) ?hr ?_; (case hd => rfl); (case hg => rfl); (case hr => first | (go_simp; done) | (go_simp; rfl)); intro gb253 hg w2 hbox hb; have BK253 := zM (hbox); have GW253 := zM (bs_ hg); have GE253 := zM (bs_ hg); replace HB := zM (zB bel_ hb); clear hb hbox hg))
  go_loopg [3, 5] k (fun kq v3 v5 w' => ∃ (x3_1 : List Int) (x5_1 : Int), v5 = .int .i64 x5_1 ∧ Aside0 (view_Members.l0 kq x3_1 x5_1 a0_0 a0_1 = some r) ∧ Aside0 (kq ≤ k) ∧ Aside0 (Kd.R (Kd.int .i64) 3 w' w.heap.size (fun _ => True) v3 x3_1) ∧ Aside0 (w'.heap[gb253]? = some (.cells #[.int .i64 a0_0, .int .i64 a0_1] 23 (0, 0))) ∧ Aside0 (Below w.heap.size w w'))
  case atStart => exact ⟨(([] : List Int)), (0), (by first | rfl | (simp; done) | (simp [*]; done) | (simp; grind)), H', ⟨Nat.le_refl _⟩, ⟨by first | exact Kd.R_nil _ _ _ _ _ | exact Kd.N_nil _ _ _ _ _ | exact Kd.V_nil _ _ _ _ _ | exact Kd.Q_nil _ _ _ _ _ | exact Kd.S_nil _ _ _ _ _⟩, ⟨blf_⟩, ⟨bel_⟩⟩
  case round =>
   clear H'
   try clear c1
   try clear p2
   obtain ⟨x3_1, x5_1, rfl, HA, HK1, HO_3, BK253, HB⟩ := hrel
   cases gk with
   | zero => exact absurd HA.out (by simp [view_Members.l0])
   | succ k1 =>
    have H := HA.out
    clear HA
    simp only [view_Members.l0] at H
    by_cases c3 : x5_1 < 6
    rotate_left
    · rw [if_neg c3] at H
      have c3b0 : decide (x5_1 < 6) = false := decide_eq_false c3
      clear c3
      obtain rfl := Option.some.inj H
      go_wp2
      go_ret
      exact ⟨_, by first | rfl | (simp [errW_none, errW_some] <;> rfl) | (simp [*, errW_none, errW_some] <;> rfl), by (with_reducible repeat (first | apply Kd.R_alloc | apply Kd.R_drewN | apply Kd.R_drew)); exact HO_3.out, bel_⟩
    rw [if_pos c3] at H
    have c3b0 : decide (x5_1 < 6) = true := decide_eq_true c3
    clear c3
    replace H := Option.bind_eq_some_iff.mp H
    obtain ⟨t254, A40, H⟩ := H
    replace H : (if t254 = true then (if x3_1.length < 17592186044416 then (view_Members.l0 k1 (x3_1 ++ [x5_1]) (wrap64 (x5_1 + 1)) a0_0 a0_1) else (none)) else (view_Members.l0 k1 x3_1 (wrap64 (x5_1 + 1)) a0_0 a0_1)) = some r := H
    have A4 := zM A40
    clear A40
    by_cases c5 : t254 = true
    rotate_left
    · replace c5 := Bool.eq_false_iff.mpr c5
      subst c5
      have H1 : (view_Members.l0 k1 x3_1 (wrap64 (x5_1 + 1)) a0_0 a0_1) = some r := by rw [if_neg (show ¬ (false = true) by decide)] at H; exact H
      clear H
      have H := H1
      clear H1
      have H' := zM H
      clear H
      have hcz10_0 : wr.cell? ⟨gb253, 0, none⟩ = some (.int .i64 a0_0) := (zL BK253.out 0).trans rfl
      have hcz10_1 : wr.cell? ⟨gb253, 1, none⟩ = some (.int .i64 a0_1) := (zL BK253.out 1).trans rfl
      have hfz10_0 := zF BK253.out 0
      have hfz10_1 := zF BK253.out 1
      go_wp2_with (first | ((with_reducible refine gate_callee (f := 37) rfl ?_); refine goL_ (some 10) Try.func37 #[.agg #[.int .i64 a0_0, .int .i64 a0_1], .int .i64 x5_1] ?_; (with_reducible refine (view_In.calls a0_0 a0_1 x5_1 false _ A4.out).mono ?_); rintro e w11 ⟨rfl, hb⟩; refine ⟨_, rfl, ?_⟩; replace HO_3 := zM (Kd.R_below (rl_ HO_3) hb); replace BK253 := zM (bb_ BK253 hb); replace HB := zM (zB bel_ hb); (try clear hb); (try clear hb2); (try clear hk); (try clear hi)))
      go_roundg k1
      case measure => have := HK1.out; omega
      case rel => exact ⟨(x3_1), (wrap64 (x5_1 + 1)), (by first | rfl | (simp; done) | (simp [*]; done) | (simp; grind)), H', ⟨by have := HK1.out; omega⟩, ⟨by (with_reducible repeat (first | apply Kd.R_alloc | apply Kd.R_drewN | apply Kd.R_drew)); exact HO_3.out⟩, ⟨blf_⟩, ⟨bel_⟩⟩
    subst c5
    have H1 : (if x3_1.length < 17592186044416 then (view_Members.l0 k1 (x3_1 ++ [x5_1]) (wrap64 (x5_1 + 1)) a0_0 a0_1) else (none)) = some r := by rw [if_pos rfl] at H; exact H
    clear H
    have H := H1
    clear H1
    by_cases c6 : x3_1.length < 17592186044416
    rotate_left
    · rw [if_neg c6] at H
      exact absurd H (by simp)
    rw [if_pos c6] at H
    have LMc6 := zM c6
    clear c6
    obtain ⟨y255, hy255⟩ : ∃ y_ : List Int, y_ = (x3_1 ++ [x5_1]) := ⟨_, rfl⟩
    replace H : (view_Members.l0 k1 y255 (wrap64 (x5_1 + 1)) a0_0 a0_1) = some r := by first | (rw [hy255]; with_reducible exact H) | (have H2_ := (Option.bind_some _ _).symm.trans H; rw [hy255]; with_reducible exact H2_) | (have H2_ := (Option.bind_some _ _).symm.trans H; with_reducible exact H2_) | with_reducible exact H | (rw [hy255]; exact H) | exact H
    have Ny255 := zM hy255
    clear hy255
    have H' := zM H
    clear H
    have hcz7_0 : wr.cell? ⟨gb253, 0, none⟩ = some (.int .i64 a0_0) := (zL BK253.out 0).trans rfl
    have hcz7_1 : wr.cell? ⟨gb253, 1, none⟩ = some (.int .i64 a0_1) := (zL BK253.out 1).trans rfl
    have hfz7_0 := zF BK253.out 0
    have hfz7_1 := zF BK253.out 1
    go_wp2_with (first | ((with_reducible refine gate_callee (f := 37) rfl ?_); refine goL_ (some 10) Try.func37 #[.agg #[.int .i64 a0_0, .int .i64 a0_1], .int .i64 x5_1] ?_; (with_reducible refine (view_In.calls a0_0 a0_1 x5_1 true _ A4.out).mono ?_); rintro e w8 ⟨rfl, hb⟩; refine ⟨_, rfl, ?_⟩; replace HO_3 := zM (Kd.R_below (rl_ HO_3) hb); replace BK253 := zM (bb_ BK253 hb); replace HB := zM (zB bel_ hb); (try clear hb); (try clear hb2); (try clear hk); (try clear hi)) | ((with_reducible refine gate_builtin (b := .append) (xs := #[.tmp 11, .tmp 13]) rfl ?_); at_builtin; refine Kd.R_append (Kd.int .i64) (w0 := w) w.heap.size rfl (.tmp 11) (.tmp 13) 34 3 (.int .i64 0) 8 rfl Try.underlying34 info3 rfl (by decide) (by omega) u3 x3_1 x5_1 [.int .i64 x5_1] (fun _ => True) (fun _ => False) rfl rfl ?aP (fun _ hk => hk.elim) ?aF ?aO ?aB ?aS ?aL ?_; (case aP => exact rfl); (case aB => exact bel_); (case aF => exact (fun _ _ => trivial)); (case aO => exact (rl_ HO_3)); (case aS => exact (below_size bel_)); (case aL => have := LMc6.out; omega); intro v256 w9 ho hb hg hat; rw [← Ny255.out] at ho; replace BK253 := zM (blk_grown (g := gb253) (o := .cells #[.int .i64 a0_0, .int .i64 a0_1] 23 (0, 0)) blk_ hg (Kd.R_ne HO_3.out BK253.out (by decide))); replace HB := zM (hb); have HO257 := zM (ho); clear HO_3; clear ho hb hg hat))
    go_roundg k1
    case measure => have := HK1.out; omega
    case rel => exact ⟨(y255), (wrap64 (x5_1 + 1)), (by first | rfl | (simp; done) | (simp [*]; done) | (simp; grind)), H', ⟨by have := HK1.out; omega⟩, ⟨by (with_reducible repeat (first | apply Kd.R_alloc | apply Kd.R_drewN | apply Kd.R_drew)); exact HO257.out⟩, ⟨blf_⟩, ⟨bel_⟩⟩
end Go.Proofs.Ytmgiaappokkjfaa.PRoundStays
