/- Written by a program of this session (wip/tool/px.py) over the kit's print: what the code that the law FrontTurns reaches computes, function by function, and the law's row. -/
import Derived.Test.YtjfmhahlmnnacaaPFrontTurnsx0
import Derived.Test.YtjfmhahlmnnacaaPFrontTurnsx2
namespace Go.Proofs.Ytjfmhahlmnnacaa.PFrontTurns
open Go.RowKit Go.Proofs.YtjfmhahlmnnacaaX Go.Proofs.YtjfmhahlmnnacaaW.PrintWords Go.Proofs.YtjfmhahlmnnacaaW.PrintLast Go.Proofs.YtjfmhahlmnnacaaW.PrintMore
open List renaming setIfInBounds_toArray → zS, set_cons_zero → zZ, set_cons_succ → zC
open Go.Proofs.YtjfmhahlmnnacaaW.PrintWords renaming blk_drew → zD, blk_cell → zL, blk_frozen → zF, below_step → zB
open Go.Proofs.YtjfmhahlmnnacaaW.PrintWords.Aside0 renaming mk → zM
attribute [local go_sem] max2_int min2_int max_two min_two max_three min_three max_four min_four   -- for this text's walks alone
set_option linter.unusedVariables false
set_option linter.unusedSimpArgs false

attribute [local go_sem] px_nilq22
/-! ### view_compare: function 33 -/
def view_compare.f (k : Nat) (a0_0 : Int) (a0_1 : Int) (a1_0 : Int) (a1_1 : Int) : Option (Int) := (change_Size.f a0_0 a0_1).bind fun t139 => ((change_Size.f a1_0 a1_1).bind fun t140 => ((cmp_Compare_int.f t139 t140).bind fun t141 => ((change_Name.f a0_0 a0_1).bind fun t142 => ((change_Name.f a1_0 a1_1).bind fun t143 => ((cmp_Compare_int.f t142 t143).bind fun t144 => ((cmp_Or_int.f k (([t141, t144] : List Int))).bind fun t148 => (some t148)))))))
theorem view_compare.mono : ∀ a0 a1 a2 a3 k, LeO (view_compare.f k a0 a1 a2 a3) (view_compare.f (k + 1) a0 a1 a2 a3) := by
  intro a0 a1 a2 a3 k
  unfold view_compare.f
  repeat' first
      | (with_reducible exact cmp_Or_int.mono _ _)
      | (with_reducible exact LeO.refl _)
      | (with_reducible exact LeO.none _)
      | (with_reducible refine LeO.ite ?_ ?_)
      | (with_reducible refine LeO.bind ?_ (fun _ => ?_))
      | exact cmp_Or_int.mono _ _
      | exact LeO.none _
      | refine LeO.ite ?_ ?_
      | refine LeO.bind ?_ (fun _ => ?_)
def view_compare.T1 : Bool × List (List Nat × List Nat) := (true, [([], []), ([0], [0]), ([], []), ([2, 1], [2]), ([1, 3, 3], [1, 3]), ([], []), ([5, 4], [5]), ([], []), ([7, 6], [7]), ([6, 8, 8], [6, 8]), ([4, 9], [4, 9]), ([10, 9], [10]), ([11, 11, 0, 1, 2, 3, 4, 5, 6, 7, 8, 9, 10, 11], [11])])
def view_compare.B1 : List Nat := [0, 1, 0, 7, 15, 0, 63, 0, 255, 511, 1023, 2047, 4095]
theorem view_compare.tab1 : rtab .any (opsOf Try.f33 1) = view_compare.T1 := by kernel_rfl
theorem view_compare.bits1 : waitsOk view_compare.T1.2 view_compare.B1 = true := by kernel_rfl
set_option maxHeartbeats 8000000 in
set_option maxRecDepth 100000 in
theorem view_compare.calls (k : Nat) (a0_0 : Int) (a0_1 : Int) (a1_0 : Int) (a1_1 : Int) (r : Int) (w : World) (h : view_compare.f k a0_0 a0_1 a1_0 a1_1 = some r) :
    Calls Try.prog 33 #[.agg #[.int .i64 a0_0, .int .i64 a0_1], .agg #[.int .i64 a1_0, .int .i64 a1_1]] w fun e w' => e = .returned (.int .i64 r) ∧ Below w.heap.size w w' := by
  have hu24 := Try.underlying24
  have HB := zM (Below.refl w.heap.size w)
  have H : ((change_Size.f a0_0 a0_1).bind fun t139 => ((change_Size.f a1_0 a1_1).bind fun t140 => ((cmp_Compare_int.f t139 t140).bind fun t141 => ((change_Name.f a0_0 a0_1).bind fun t142 => ((change_Name.f a1_0 a1_1).bind fun t143 => ((cmp_Compare_int.f t142 t143).bind fun t144 => ((cmp_Or_int.f k (([t141, t144] : List Int))).bind fun t148 => (some t148)))))))) = some r := h
  clear h
  replace H := Option.bind_eq_some_iff.mp H
  obtain ⟨t139, A30, H⟩ := H
  replace H : ((change_Size.f a1_0 a1_1).bind fun t140 => ((cmp_Compare_int.f t139 t140).bind fun t141 => ((change_Name.f a0_0 a0_1).bind fun t142 => ((change_Name.f a1_0 a1_1).bind fun t143 => ((cmp_Compare_int.f t142 t143).bind fun t144 => ((cmp_Or_int.f k (([t141, t144] : List Int))).bind fun t148 => (some t148))))))) = some r := H
  have A3 := zM A30
  clear A30
  replace H := Option.bind_eq_some_iff.mp H
  obtain ⟨t140, A40, H⟩ := H
  replace H : ((cmp_Compare_int.f t139 t140).bind fun t141 => ((change_Name.f a0_0 a0_1).bind fun t142 => ((change_Name.f a1_0 a1_1).bind fun t143 => ((cmp_Compare_int.f t142 t143).bind fun t144 => ((cmp_Or_int.f k (([t141, t144] : List Int))).bind fun t148 => (some t148)))))) = some r := H
  have A4 := zM A40
  clear A40
  replace H := Option.bind_eq_some_iff.mp H
  obtain ⟨t141, A50, H⟩ := H
  replace H : ((change_Name.f a0_0 a0_1).bind fun t142 => ((change_Name.f a1_0 a1_1).bind fun t143 => ((cmp_Compare_int.f t142 t143).bind fun t144 => ((cmp_Or_int.f k (([t141, t144] : List Int))).bind fun t148 => (some t148))))) = some r := H
  have A5 := zM A50
  clear A50
  replace H := Option.bind_eq_some_iff.mp H
  obtain ⟨t142, A60, H⟩ := H
  replace H : ((change_Name.f a1_0 a1_1).bind fun t143 => ((cmp_Compare_int.f t142 t143).bind fun t144 => ((cmp_Or_int.f k (([t141, t144] : List Int))).bind fun t148 => (some t148)))) = some r := H
  have A6 := zM A60
  clear A60
  replace H := Option.bind_eq_some_iff.mp H
  obtain ⟨t143, A70, H⟩ := H
  replace H : ((cmp_Compare_int.f t142 t143).bind fun t144 => ((cmp_Or_int.f k (([t141, t144] : List Int))).bind fun t148 => (some t148))) = some r := H
  have A7 := zM A70
  clear A70
  replace H := Option.bind_eq_some_iff.mp H
  obtain ⟨t144, A80, H⟩ := H
  replace H : ((cmp_Or_int.f k (([t141, t144] : List Int))).bind fun t148 => (some t148)) = some r := H
  have A8 := zM A80
  clear A80
  obtain ⟨y145, hy145⟩ : ∃ y_ : List Int, y_ = (([t141, t144] : List Int)) := ⟨_, rfl⟩
  replace H : ((cmp_Or_int.f k y145).bind fun t148 => (some t148)) = some r := by first | (rw [hy145]; with_reducible exact H) | (have H2_ := (Option.bind_some _ _).symm.trans H; rw [hy145]; with_reducible exact H2_) | (have H2_ := (Option.bind_some _ _).symm.trans H; with_reducible exact H2_) | with_reducible exact H | (rw [hy145]; exact H) | exact H
  have Ny145 := zM hy145
  clear hy145
  replace H := Option.bind_eq_some_iff.mp H
  obtain ⟨t148, A90, H⟩ := H
  replace H : (some t148) = some r := H
  have A9 := zM A90
  clear A90
  obtain rfl := Option.some.inj H
  go_enter Try.func33, Try.ntmps33
  try go_wp2_with (first | ((with_reducible refine gate_dst (N := 2) rfl ?_); refine box_event ?hg (N := 2) ?hd (cs := #[.int .i64 a0_0, .int .i64 a0_1]) (t := 24) ?hr ?_; (case hd => rfl); (case hg => rfl); (case hr => first | (go_simp; done) | (go_simp; rfl)); intro gb137 hg w10 hbox hb; have BK137 := zM (hbox); have GW137 := zM (bs_ hg); have GE137 := zM (bs_ hg); replace HB := zM (zB bel_ hb); clear hb hbox hg) | ((with_reducible refine gate_dst (N := 3) rfl ?_); refine box_event ?hg (N := 3) ?hd (cs := #[.int .i64 a1_0, .int .i64 a1_1]) (t := 24) ?hr ?_; (case hd => rfl); (case hg => rfl); (case hr => first | (go_simp; done) | (go_simp; rfl)); intro gb138 hg w11 hbox hb; have BK138 := zM (hbox); have GW138 := zM (bs_ hg); have GE138 := zM (bs_ hg); replace HB := zM (zB bel_ hb); have NB137_138 := zM (nl_ BK137 hg); have NB138_137 := zM (ng_ BK137 hg); replace BK137 := zM (bb_ BK137 hb); clear hb hbox hg))
  replace BK137 := zM (zD BK137.out)
  replace BK138 := zM (zD BK138.out)
  replace HB := zM (below_drew1 HB.out)
  refine start_ (n := 13) (S := fun w' => w'.cell? ⟨gb137, 0, none⟩ = some (.int .i64 a0_0) ∧ w'.cell? ⟨gb137, 1, none⟩ = some (.int .i64 a0_1) ∧ w'.cell? ⟨gb138, 0, none⟩ = some (.int .i64 a1_0) ∧ w'.cell? ⟨gb138, 1, none⟩ = some (.int .i64 a1_1)) (ds := []) #[F_, F_, F_, F_, F_, F_, F_, F_, F_, F_, F_, F_, F_] (by kernel_rfl) rfl rfl ⟨(zL BK137.out 0).trans rfl, (zL BK137.out 1).trans rfl, (zL BK138.out 0).trans rfl, (zL BK138.out 1).trans rfl⟩ (fun hHeld => ?_); refine with_tabW view_compare.tab1 view_compare.bits1 (fun HT_ HW_ => ?_)
  generalize w11.drew = w12 at BK137 BK138 HB hHeld ⊢
  refine take_ (i := 0) (N := some 5) (v := ?_) (a' := ?_) #[T_, F_, F_, F_, F_, F_, F_, F_, F_, F_, F_, F_, F_] rfl rfl (take_ofW HT_.out HW_.out (by kernel_rfl)) (fun _ _ _ h => h) (Or.inl ⟨by rfl, ?_⟩) hHeld ?_ ?_
  rotate_left
  · rintro w' ⟨s0, s1, s2, s3⟩
    go_simp
    with_reducible rfl
  rotate_left
  · simp only [Act.put, zS, zZ, zC, i64_w, i32_w]
    rfl
  refine take_ (i := 2) (N := some 7) (v := ?_) (a' := ?_) #[T_, F_, T_, F_, F_, F_, F_, F_, F_, F_, F_, F_, F_] rfl rfl (take_ofW HT_.out HW_.out (by kernel_rfl)) (fun _ _ _ h => h) (Or.inl ⟨by rfl, ?_⟩) hHeld ?_ ?_
  rotate_left
  · rintro w' ⟨s0, s1, s2, s3⟩
    go_simp
    with_reducible rfl
  rotate_left
  · simp only [Act.put, zS, zZ, zC, i64_w, i32_w]
    rfl
  refine take_ (i := 5) (N := some 10) (v := ?_) (a' := ?_) #[T_, F_, T_, F_, F_, T_, F_, F_, F_, F_, F_, F_, F_] rfl rfl (take_ofW HT_.out HW_.out (by kernel_rfl)) (fun _ _ _ h => h) (Or.inl ⟨by rfl, ?_⟩) hHeld ?_ ?_
  rotate_left
  · rintro w' ⟨s0, s1, s2, s3⟩
    go_simp
    with_reducible rfl
  rotate_left
  · simp only [Act.put, zS, zZ, zC, i64_w, i32_w]
    rfl
  refine take_ (i := 7) (N := some 12) (v := ?_) (a' := ?_) #[T_, F_, T_, F_, F_, T_, F_, T_, F_, F_, F_, F_, F_] rfl rfl (take_ofW HT_.out HW_.out (by kernel_rfl)) (fun _ _ _ h => h) (Or.inl ⟨by rfl, ?_⟩) hHeld ?_ ?_
  rotate_left
  · rintro w' ⟨s0, s1, s2, s3⟩
    go_simp
    with_reducible rfl
  rotate_left
  · simp only [Act.put, zS, zZ, zC, i64_w, i32_w]
    rfl
  refine one_ (i := 1) (N := some 6) #[T_, T_, T_, F_, F_, T_, F_, T_, F_, F_, F_, F_, F_] rfl rfl (one_of HT_.out (by kernel_rfl)) (by decide) (fun K hK => ?_)
  refine goes_ Try.func20 (by kernel_rfl) rfl #[.agg #[.int .i64 a0_0, .int .i64 a0_1]] (by rfl) rfl rfl (by (try simp only [List.map_toArray, List.map_cons, List.map_nil]); first | done | rfl | (simp only [List.length_drop, List.length_take]; rfl)) ?_
  with_reducible refine (change_Size.calls a0_0 a0_1 t139 _ A3.out).mono ?_
  rintro e w13 ⟨rfl, hb⟩
  refine ⟨_, rfl, ?_⟩
  replace BK137 := zM (bb_ BK137 hb)
  replace BK138 := zM (bb_ BK138 hb)
  replace HB := zM (zB bel_ hb)
  (try clear hb)
  (try clear hb2)
  (try clear hk)
  (try clear hi)
  refine hK.out _ _ ⟨(zL BK137.out 0).trans rfl, (zL BK137.out 1).trans rfl, (zL BK138.out 0).trans rfl, (zL BK138.out 1).trans rfl⟩ (fun hHeld => ?_)
  clear hK K
  refine norm_ (a' := ?_) ?_ ?_
  rotate_left
  · show Act.put _ (some 6) _ = _
    simp only [Act.put, zS, zZ, zC, i64_w, i32_w]
    rfl
  refine one_ (i := 3) (N := some 8) #[T_, T_, T_, T_, F_, T_, F_, T_, F_, F_, F_, F_, F_] rfl rfl (one_of HT_.out (by kernel_rfl)) (by decide) (fun K hK => ?_)
  refine goes_ Try.func20 (by kernel_rfl) rfl #[.agg #[.int .i64 a1_0, .int .i64 a1_1]] (by rfl) rfl rfl (by (try simp only [List.map_toArray, List.map_cons, List.map_nil]); first | done | rfl | (simp only [List.length_drop, List.length_take]; rfl)) ?_
  with_reducible refine (change_Size.calls a1_0 a1_1 t140 _ A4.out).mono ?_
  rintro e w14 ⟨rfl, hb⟩
  refine ⟨_, rfl, ?_⟩
  replace BK137 := zM (bb_ BK137 hb)
  replace BK138 := zM (bb_ BK138 hb)
  replace HB := zM (zB bel_ hb)
  (try clear hb)
  (try clear hb2)
  (try clear hk)
  (try clear hi)
  refine hK.out _ _ ⟨(zL BK137.out 0).trans rfl, (zL BK137.out 1).trans rfl, (zL BK138.out 0).trans rfl, (zL BK138.out 1).trans rfl⟩ (fun hHeld => ?_)
  clear hK K
  refine norm_ (a' := ?_) ?_ ?_
  rotate_left
  · show Act.put _ (some 8) _ = _
    simp only [Act.put, zS, zZ, zC, i64_w, i32_w]
    rfl
  refine one_ (i := 4) (N := some 9) #[T_, T_, T_, T_, T_, T_, F_, T_, F_, F_, F_, F_, F_] rfl rfl (one_of HT_.out (by kernel_rfl)) (by decide) (fun K hK => ?_)
  refine goes_ Try.func42 (by kernel_rfl) rfl #[.int .i64 t139, .int .i64 t140] (by rfl) rfl rfl (by (try simp only [List.map_toArray, List.map_cons, List.map_nil]); first | done | rfl | (simp only [List.length_drop, List.length_take]; rfl)) ?_
  with_reducible refine (cmp_Compare_int.calls t139 t140 t141 _ A5.out).mono ?_
  rintro e w' ⟨rfl, ⟨nd, rfl⟩⟩
  refine ⟨_, rfl, ?_⟩
  refine hK.out _ _ ⟨(zL BK137.out 0).trans rfl, (zL BK137.out 1).trans rfl, (zL BK138.out 0).trans rfl, (zL BK138.out 1).trans rfl⟩ (fun hHeld => ?_)
  clear hK K
  refine norm_ (a' := ?_) ?_ ?_
  rotate_left
  · show Act.put _ (some 9) _ = _
    simp only [Act.put, zS, zZ, zC, i64_w, i32_w]
    rfl
  refine one_ (i := 6) (N := some 11) #[T_, T_, T_, T_, T_, T_, T_, T_, F_, F_, F_, F_, F_] rfl rfl (one_of HT_.out (by kernel_rfl)) (by decide) (fun K hK => ?_)
  refine goes_ Try.func43 (by kernel_rfl) rfl #[.agg #[.int .i64 a0_0, .int .i64 a0_1]] (by rfl) rfl rfl (by (try simp only [List.map_toArray, List.map_cons, List.map_nil]); first | done | rfl | (simp only [List.length_drop, List.length_take]; rfl)) ?_
  with_reducible refine (change_Name.calls a0_0 a0_1 t142 _ A6.out).mono ?_
  rintro e w15 ⟨rfl, hb⟩
  refine ⟨_, rfl, ?_⟩
  replace BK137 := zM (bb_ BK137 hb)
  replace BK138 := zM (bb_ BK138 hb)
  replace HB := zM (zB bel_ hb)
  (try clear hb)
  (try clear hb2)
  (try clear hk)
  (try clear hi)
  refine hK.out _ _ ⟨(zL BK137.out 0).trans rfl, (zL BK137.out 1).trans rfl, (zL BK138.out 0).trans rfl, (zL BK138.out 1).trans rfl⟩ (fun hHeld => ?_)
  clear hK K
  refine norm_ (a' := ?_) ?_ ?_
  rotate_left
  · show Act.put _ (some 11) _ = _
    simp only [Act.put, zS, zZ, zC, i64_w, i32_w]
    rfl
  refine one_ (i := 8) (N := some 13) #[T_, T_, T_, T_, T_, T_, T_, T_, T_, F_, F_, F_, F_] rfl rfl (one_of HT_.out (by kernel_rfl)) (by decide) (fun K hK => ?_)
  refine goes_ Try.func43 (by kernel_rfl) rfl #[.agg #[.int .i64 a1_0, .int .i64 a1_1]] (by rfl) rfl rfl (by (try simp only [List.map_toArray, List.map_cons, List.map_nil]); first | done | rfl | (simp only [List.length_drop, List.length_take]; rfl)) ?_
  with_reducible refine (change_Name.calls a1_0 a1_1 t143 _ A7.out).mono ?_
  rintro e w16 ⟨rfl, hb⟩
  refine ⟨_, rfl, ?_⟩
  replace BK137 := zM (bb_ BK137 hb)
  replace BK138 := zM (bb_ BK138 hb)
  replace HB := zM (zB bel_ hb)
  (try clear hb)
  (try clear hb2)
  (try clear hk)
  (try clear hi)
  refine hK.out _ _ ⟨(zL BK137.out 0).trans rfl, (zL BK137.out 1).trans rfl, (zL BK138.out 0).trans rfl, (zL BK138.out 1).trans rfl⟩ (fun hHeld => ?_)
  clear hK K
  refine norm_ (a' := ?_) ?_ ?_
  rotate_left
  · show Act.put _ (some 13) _ = _
    simp only [Act.put, zS, zZ, zC, i64_w, i32_w]
    rfl
  refine one_ (i := 9) (N := some 14) #[T_, T_, T_, T_, T_, T_, T_, T_, T_, T_, F_, F_, F_] rfl rfl (one_of HT_.out (by kernel_rfl)) (by decide) (fun K hK => ?_)
  refine goes_ Try.func42 (by kernel_rfl) rfl #[.int .i64 t142, .int .i64 t143] (by rfl) rfl rfl (by (try simp only [List.map_toArray, List.map_cons, List.map_nil]); first | done | rfl | (simp only [List.length_drop, List.length_take]; rfl)) ?_
  with_reducible refine (cmp_Compare_int.calls t142 t143 t144 _ A8.out).mono ?_
  rintro e w' ⟨rfl, ⟨nd, rfl⟩⟩
  refine ⟨_, rfl, ?_⟩
  refine hK.out _ _ ⟨(zL BK137.out 0).trans rfl, (zL BK137.out 1).trans rfl, (zL BK138.out 0).trans rfl, (zL BK138.out 1).trans rfl⟩ (fun hHeld => ?_)
  clear hK K
  refine norm_ (a' := ?_) ?_ ?_
  rotate_left
  · show Act.put _ (some 14) _ = _
    simp only [Act.put, zS, zZ, zC, i64_w, i32_w]
    rfl
  refine one_ (i := 10) (N := some 15) #[T_, T_, T_, T_, T_, T_, T_, T_, T_, T_, T_, F_, F_] rfl rfl (one_of HT_.out (by kernel_rfl)) (by decide) (fun K hK => ?_)
  refine Kd.R_lit_step (Kd.int .i64) _ 3 ?hg (N := 15) ?hd (xs := ([t141, t144] : List Int)) (inner := [.int .i64 t141, .int .i64 t144]) (ok := fun _ => True) (okp := fun _ => True) ?hr ?hp (fun _ hk => hk) trivial (Below.refl _ _) (Nat.le_refl _) (by simp) ?_; (case hd => rfl); (case hg => rfl); (case hr => first | (go_simp; done) | (go_simp; rfl)); (case hp => exact (Reps.one (show Kd.M (Kd.int .i64) _ _ _ t141 [.int .i64 t141] from rfl) (Reps.one (show Kd.M (Kd.int .i64) _ _ _ t144 [.int .i64 t144] from rfl) (Reps.none _ _))))
  intro v146 w17 ho18 hb hg_ hnew_
  clear hg_ hnew_
  (first | rw [← Ny145.out] at ho18 | (simp only [Int.reduceToNat] at ho18; rw [← Ny145.out] at ho18))
  have HO147 := zM (Kd.R_lower ho18 (below_size bel_))
  replace BK137 := zM (bb_ BK137 hb)
  replace BK138 := zM (bb_ BK138 hb)
  replace HB := zM (zB bel_ hb)
  clear hb ho18
  obtain ⟨Ao19, co19, eo19⟩ := Kd.R_slice HO147.out
  (first | subst eo19 | (injection eo19 with f1_ f2_ f3_; have f4_ := f1_.symm; have f5_ := f3_.symm; clear f1_ f2_ f3_; subst f4_; subst f5_))
  refine hK.out _ _ ⟨(zL BK137.out 0).trans rfl, (zL BK137.out 1).trans rfl, (zL BK138.out 0).trans rfl, (zL BK138.out 1).trans rfl⟩ (fun hHeld => ?_)
  clear hK K
  refine norm_ (a' := ?_) ?_ ?_
  rotate_left
  · show Act.put _ (some 15) _ = _
    simp only [Act.put, zS, zZ, zC, i64_w, i32_w]
    rfl
  refine one_ (i := 11) (N := some 16) #[T_, T_, T_, T_, T_, T_, T_, T_, T_, T_, T_, T_, F_] rfl rfl (one_of HT_.out (by kernel_rfl)) (by decide) (fun K hK => ?_)
  refine goes_ Try.func41 (by kernel_rfl) rfl #[.slice Ao19 y145.length co19] (by rfl) rfl rfl (by (try simp only [List.map_toArray, List.map_cons, List.map_nil]); first | done | rfl | (simp only [List.length_drop, List.length_take]; rfl)) ?_
  with_reducible refine (cmp_Or_int.calls k _ _ y145 t148 _ ?side1 ?side2 A9.out).mono ?_
  (case side1 => repeat (first | exact (Kd.R_reads' HO147.out).2.2 | (with_reducible refine Kd.C_alloc ?_ _) | (with_reducible refine Kd.C_drewN ?_ _) | (with_reducible refine Kd.C_drew ?_)))
  (case side2 => exact (Kd.R_reads' HO147.out).2.1)
  rintro e w' ⟨rfl, ⟨nd, rfl⟩⟩
  refine ⟨_, rfl, ?_⟩
  refine hK.out _ _ ⟨(zL BK137.out 0).trans rfl, (zL BK137.out 1).trans rfl, (zL BK138.out 0).trans rfl, (zL BK138.out 1).trans rfl⟩ (fun hHeld => ?_)
  clear hK K
  refine norm_ (a' := ?_) ?_ ?_
  rotate_left
  · show Act.put _ (some 16) _ = _
    simp only [Act.put, zS, zZ, zC, i64_w, i32_w]
    rfl
  refine pure_ (i := 12) (N := some 4) (v := ?_) (a' := ?_) #[T_, T_, T_, T_, T_, T_, T_, T_, T_, T_, T_, T_, T_] rfl rfl (any_of HT_.out (by kernel_rfl)) (fun _ _ _ h => h) (Or.inl ⟨by rfl, ?_⟩) ?_ ?_
  rotate_left
  · intro w'
    go_simp
    with_reducible rfl
  rotate_left
  · simp only [Act.put, zS, zZ, zC, i64_w, i32_w]
    rfl
  refine done_ (done_of HT_.out (by kernel_rfl)) ?_
  try go_wp2
  go_ret
  exact ⟨by first | rfl | (simp [errW_none, errW_some] <;> rfl) | (simp [*, errW_none, errW_some] <;> rfl), bel_⟩
/-! ### view_Less: function 21 -/
def view_Less.f (k : Nat) (a0_0 : Int) (a0_1 : Int) (a1_0 : Int) (a1_1 : Int) : Option (Bool) := (view_compare.f k a0_0 a0_1 a1_0 a1_1).bind fun t151 => (some (decide (t151 < 0)))
theorem view_Less.mono : ∀ a0 a1 a2 a3 k, LeO (view_Less.f k a0 a1 a2 a3) (view_Less.f (k + 1) a0 a1 a2 a3) := by
  intro a0 a1 a2 a3 k
  unfold view_Less.f
  repeat' first
      | (with_reducible exact view_compare.mono _ _ _ _ _)
      | (with_reducible exact LeO.refl _)
      | (with_reducible exact LeO.none _)
      | (with_reducible refine LeO.ite ?_ ?_)
      | (with_reducible refine LeO.bind ?_ (fun _ => ?_))
      | exact view_compare.mono _ _ _ _ _
      | exact LeO.none _
      | refine LeO.ite ?_ ?_
      | refine LeO.bind ?_ (fun _ => ?_)
set_option maxHeartbeats 8000000 in
set_option maxRecDepth 100000 in
theorem view_Less.calls (k : Nat) (a0_0 : Int) (a0_1 : Int) (a1_0 : Int) (a1_1 : Int) (r : Bool) (w : World) (h : view_Less.f k a0_0 a0_1 a1_0 a1_1 = some r) :
    Calls Try.prog 21 #[.agg #[.int .i64 a0_0, .int .i64 a0_1], .agg #[.int .i64 a1_0, .int .i64 a1_1]] w fun e w' => e = .returned (.bool r) ∧ Below w.heap.size w w' := by
  have hu24 := Try.underlying24
  have HB := zM (Below.refl w.heap.size w)
  have H : ((view_compare.f k a0_0 a0_1 a1_0 a1_1).bind fun t151 => (some (decide (t151 < 0)))) = some r := h
  clear h
  replace H := Option.bind_eq_some_iff.mp H
  obtain ⟨t151, A30, H⟩ := H
  replace H : (some (decide (t151 < 0))) = some r := H
  have A3 := zM A30
  clear A30
  obtain rfl := Option.some.inj H
  go_enter Try.func21, Try.ntmps21
  go_wp2_with (first | ((with_reducible refine gate_dst (N := 2) rfl ?_); refine box_event ?hg (N := 2) ?hd (cs := #[.int .i64 a0_0, .int .i64 a0_1]) (t := 24) ?hr ?_; (case hd => rfl); (case hg => rfl); (case hr => first | (go_simp; done) | (go_simp; rfl)); intro gb149 hg w4 hbox hb; have BK149 := zM (hbox); have GW149 := zM (bs_ hg); have GE149 := zM (bs_ hg); replace HB := zM (zB bel_ hb); clear hb hbox hg) | ((with_reducible refine gate_dst (N := 3) rfl ?_); refine box_event ?hg (N := 3) ?hd (cs := #[.int .i64 a1_0, .int .i64 a1_1]) (t := 24) ?hr ?_; (case hd => rfl); (case hg => rfl); (case hr => first | (go_simp; done) | (go_simp; rfl)); intro gb150 hg w5 hbox hb; have BK150 := zM (hbox); have GW150 := zM (bs_ hg); have GE150 := zM (bs_ hg); replace HB := zM (zB bel_ hb); have NB149_150 := zM (nl_ BK149 hg); have NB150_149 := zM (ng_ BK149 hg); replace BK149 := zM (bb_ BK149 hb); clear hb hbox hg; have hnb6 := NB149_150.out; have hnc6 := NB150_149.out; have hcz7_0 : w5.cell? ⟨gb149, 0, none⟩ = some (.int .i64 a0_0) := (zL BK149.out 0).trans rfl; have hcz7_1 : w5.cell? ⟨gb149, 1, none⟩ = some (.int .i64 a0_1) := (zL BK149.out 1).trans rfl; have hfz7_0 := zF BK149.out 0; have hfz7_1 := zF BK149.out 1; have hcz8_0 : w5.cell? ⟨gb150, 0, none⟩ = some (.int .i64 a1_0) := (zL BK150.out 0).trans rfl; have hcz8_1 : w5.cell? ⟨gb150, 1, none⟩ = some (.int .i64 a1_1) := (zL BK150.out 1).trans rfl; have hfz8_0 := zF BK150.out 0; have hfz8_1 := zF BK150.out 1) | ((with_reducible refine gate_callee (f := 33) rfl ?_); refine goL_ (some 7) Try.func33 #[.agg #[.int .i64 a0_0, .int .i64 a0_1], .agg #[.int .i64 a1_0, .int .i64 a1_1]] ?_; (with_reducible refine (view_compare.calls k a0_0 a0_1 a1_0 a1_1 t151 _ A3.out).mono ?_); rintro e w9 ⟨rfl, hb⟩; refine ⟨_, rfl, ?_⟩; replace BK149 := zM (bb_ BK149 hb); replace BK150 := zM (bb_ BK150 hb); replace HB := zM (zB bel_ hb); (try clear hb); (try clear hb2); (try clear hk); (try clear hi)))
  go_ret
  exact ⟨by first | rfl | (simp [errW_none, errW_some] <;> rfl) | (simp [*, errW_none, errW_some] <;> rfl), bel_⟩
/-! ### api_View_26: function 26 -/
def api_View_26.f (l0 : List (S24)) : Option ((List (S24))) := (some (([] : List (S24)) : List (S24))).bind fun y152 => (if y152.length + l0.length < 8796093022208 then (some (y152 ++ l0)) else (none))
set_option maxHeartbeats 8000000 in
set_option maxRecDepth 100000 in
theorem api_View_26.calls (A0 : Option Addr) (c0 : Nat) (l0 : List (S24)) (r : List (S24)) (w : World) (hr0 : Kd.C k24 w A0 l0.length l0) (hc0 : l0.length ≤ c0) (h : api_View_26.f l0 = some r) :
    Calls Try.prog 26 #[.slice A0 l0.length c0] w fun e w' => ∃ v0_ : Value, e = .returned (v0_) ∧ Kd.R k24 24 w' w.heap.size (fun _ => True) v0_ r ∧ Below w.heap.size w w' := by
  have HR0 := zM hr0
  have HC0 := zM hc0
  clear hr0 hc0
  have HB := zM (Below.refl w.heap.size w)
  have H : ((some (([] : List (S24)) : List (S24))).bind fun y152 => (if y152.length + l0.length < 8796093022208 then (some (y152 ++ l0)) else (none))) = some r := h
  clear h
  by_cases c2 : A0 = none
  · have c2b : A0.isNone = true := by rw [c2]; rfl
    have hl_ : l0 = [] := Classical.byContradiction fun hne_ => by
     have hp_ : 0 < l0.length := List.length_pos_iff.2 hne_
     obtain ⟨ad_, e_, hz_⟩ := at_T24 HR0.out 0 (by decide) (by omega)
     rw [c2] at e_
     cases e_
    have H1 : (some ([] : List (S24))) = some r := by have H_ := H; rw [hl_] at H_; simpa using H_
    clear H hl_
    have H := H1
    clear H1
    obtain rfl := Option.some.inj H
    go_enter Try.func26, Try.ntmps26
    go_wp2
    go_ret
    exact ⟨_, by first | rfl | (simp [errW_none, errW_some] <;> rfl) | (simp [*, errW_none, errW_some] <;> rfl), by first | exact Kd.R_nil _ _ _ _ _ | exact Kd.N_nil _ _ _ _ _ | exact Kd.V_nil _ _ _ _ _ | exact Kd.Q_nil _ _ _ _ _ | exact Kd.S_nil _ _ _ _ _, bel_⟩
  have c2b : A0.isNone = false := by cases h_ : A0 <;> simp_all
  obtain ⟨y152, hy152⟩ : ∃ y_ : List (S24), y_ = (([] : List (S24))) := ⟨_, rfl⟩
  replace H : (if y152.length + l0.length < 8796093022208 then (some (y152 ++ l0)) else (none)) = some r := by first | (rw [hy152]; with_reducible exact H) | (have H2_ := (Option.bind_some _ _).symm.trans H; rw [hy152]; with_reducible exact H2_) | (have H2_ := (Option.bind_some _ _).symm.trans H; with_reducible exact H2_) | with_reducible exact H | (rw [hy152]; exact H) | exact H
  have Ny152 := zM hy152
  clear hy152
  by_cases c3 : y152.length + l0.length < 8796093022208
  rotate_left
  · rw [if_neg c3] at H
    exact absurd H (by simp)
  rw [if_pos c3] at H
  have LMc3 := zM c3
  clear c3
  obtain ⟨y155, hy155⟩ : ∃ y_ : List (S24), y_ = (y152 ++ l0) := ⟨_, rfl⟩
  replace H : (some y155) = some r := by first | (rw [hy155]; with_reducible exact H) | (have H2_ := (Option.bind_some _ _).symm.trans H; rw [hy155]; with_reducible exact H2_) | (have H2_ := (Option.bind_some _ _).symm.trans H; with_reducible exact H2_) | with_reducible exact H | (rw [hy155]; exact H) | exact H
  have Ny155 := zM hy155
  clear hy155
  obtain rfl := Option.some.inj H
  go_enter Try.func26, Try.ntmps26
  go_wp2_with (first | ((with_reducible refine gate_dst (N := 5) rfl ?_); refine Kd.R_lit k24 _ 24 ?hg (N := 5) ?hd (xs := ([] : List (S24))) (inner := []) (ok := fun _ => True) (okp := fun _ => True) ?hr ?hp (fun _ hk => hk) trivial (Below.refl _ _) (Nat.le_refl _) (by simp) ?_; (case hd => rfl); (case hg => rfl); (case hr => first | (go_simp; done) | (go_simp; rfl)); (case hp => exact (Reps.none _ _)); intro v153 w4 ho5 hb hg_ hnew_; clear hg_ hnew_; (first | rw [← Ny152.out] at ho5 | (simp only [Int.reduceToNat] at ho5; rw [← Ny152.out] at ho5)); have HO154 := zM (Kd.R_lower ho5 (below_size bel_)); replace HB := zM (zB bel_ hb); clear hb ho5) | ((with_reducible refine gate_builtin (b := .append) (xs := #[.tmp 5, .tmp 6]) rfl ?_); at_builtin; refine Kd.R_append_rows k24 (w0 := w) w.heap.size rfl (.tmp 5) (.tmp 6) 22 24 (.agg #[(.int .i64 0), (.int .i64 0)]) 16 rfl Try.underlying22 info24 rfl (by decide) (by omega) v153 y152 l0 _ _ _ (fun _ => True) (fun _ => False) rfl rfl ?aO ?aR (fun _ _ h => h) (fun _ h => h.elim) ?aF ?aB ?aS ?aL ?_; (case aR => repeat (first | exact (Kd.C_below HR0.out HB.out) | (with_reducible refine Kd.C_alloc ?_ _) | (with_reducible refine Kd.C_drewN ?_ _) | (with_reducible refine Kd.C_drew ?_))); (case aB => exact bel_); (case aF => exact (fun _ _ => trivial)); (case aO => exact (rl_ HO154)); (case aS => exact (below_size bel_)); (case aL => have := LMc3.out; omega); intro v156 w6 ho hb hg hat; rw [← Ny155.out] at ho; replace HB := zM (hb); have HO157 := zM (ho); clear HO154; clear ho hb hg hat))
  go_ret
  exact ⟨_, by first | rfl | (simp [errW_none, errW_some] <;> rfl) | (simp [*, errW_none, errW_some] <;> rfl), by (with_reducible repeat (first | apply Kd.R_alloc | apply Kd.R_drewN | apply Kd.R_drew)); exact HO157.out, bel_⟩
/-! ### api_View_27: function 27 -/
section
open Go.Shelf Go.Lib
/-! slices.Insert of one element ahead of another, in a row of the call's own -/
def hi_enc (v : S24) : List Value := [.int .i64 v.f0, .int .i64 v.f1]
def hi_flat (l : List S24) : List Value := l.flatMap hi_enc
theorem hi_flat_len (l : List S24) : (hi_flat l).length = l.length * 2 := by
  induction l with
  | nil => rfl
  | cons x l ih => simp [hi_flat, hi_enc] at ih ⊢; omega
theorem hi_flat_app (a b : List S24) : hi_flat (a ++ b) = hi_flat a ++ hi_flat b := by simp [hi_flat]
theorem hi_flat_take (l : List S24) : ∀ i, (hi_flat l).take (i * 2) = hi_flat (l.take i) := by
  induction l with
  | nil => intro i; simp [hi_flat]
  | cons x l ih =>
    intro i
    cases i with
    | zero => simp [hi_flat]
    | succ i =>
      rw [show (i + 1) * 2 = i * 2 + 2 by omega]
      have := ih i
      simp only [hi_flat, List.flatMap_cons, hi_enc, List.cons_append, List.nil_append, List.take_succ_cons] at this ⊢
      rw [this]
theorem hi_flat_drop (l : List S24) : ∀ i, (hi_flat l).drop (i * 2) = hi_flat (l.drop i) := by
  induction l with
  | nil => intro i; simp [hi_flat]
  | cons x l ih =>
    intro i
    cases i with
    | zero => simp [hi_flat]
    | succ i =>
      rw [show (i + 1) * 2 = i * 2 + 2 by omega]
      have := ih i
      simp only [hi_flat, List.flatMap_cons, hi_enc, List.cons_append, List.nil_append, List.drop_succ_cons] at this ⊢
      rw [this]
theorem hi_one (l : List S24) : ∀ v ∈ hi_flat l, v.oneCell' = true := by
  intro v hv
  obtain ⟨x, _, hx⟩ := List.mem_flatMap.1 hv
  simp [hi_enc] at hx
  rcases hx with rfl | rfl <;> rfl
/-- what a row of the call's own holds, as cells -/
theorem hi_reps (P : World → Nat → (Nat → Prop) → S24 → List Value → Prop) {w : World} {base : Nat} {ok : Nat → Prop} {l : List S24} {inner : List Value} (h : Reps (k24.M w base ok) 2 l inner) : inner = hi_flat l := by
  have hl : inner.length = (hi_flat l).length := by rw [h.1, hi_flat_len]
  have key : ∀ n, n ≤ l.length → inner.take (n * 2) = hi_flat (l.take n) := by
    intro n
    induction n with
    | zero => intro _; simp [hi_flat]
    | succ n ih =>
      intro hn
      have hx : l[n]? = some l[n] := List.getElem?_eq_getElem (by omega)
      have hp := k24_openM (h.2 n _ hx)
      rw [List.take_add_one, hx, hi_flat_app, ← ih (by omega), show (n + 1) * 2 = n * 2 + 2 by omega]
      have e : inner.take (n * 2 + 2) = inner.take (n * 2) ++ (inner.drop (n * 2)).take 2 := by rw [List.take_add]
      rw [e, hp]
      simp [hi_flat, hi_enc]
  have := key l.length (Nat.le_refl _)
  rw [List.take_length, List.take_of_length_le (by rw [hl, hi_flat_len]; exact Nat.le_refl _)] at this
  exact this
theorem hi_reps_of (w : World) (base : Nat) (ok : Nat → Prop) (l : List S24) : Reps (k24.M w base ok) 2 l (hi_flat l) := by
  refine ⟨hi_flat_len l, fun j p hj => ?_⟩
  have : (hi_flat l).drop (j * 2) = hi_enc p ++ hi_flat (l.drop (j + 1)) := by
    rw [hi_flat_drop]
    have hj' : j < l.length := (List.getElem?_eq_some_iff.1 hj).1
    rw [List.drop_eq_getElem_cons hj', show l[j] = p from (List.getElem?_eq_some_iff.1 hj).2]
    rfl
  rw [this]
  exact k24_mkM w base ok p
theorem hi_copy {P : Program} (w : World) (dT sT ty elem : TypeId) (g o dLen dCap : Nat) (a : Addr) (sLen sCap k : Nat) (cur : Array Value) (t : TypeId) (cs : List Value)
    (hu : P.underlying dT = some (.slice elem)) (hs : (P.info? elem).map (·.size) = some k)
    (hg : w.heap[g]? = some (.cells cur t (0, 0))) (hn : cs.length = Nat.min sLen dLen * k)
    (hsrc : ∀ j v, cs[j]? = some v → w.cell? (a.add j) = some v) (hfit : o + cs.length ≤ cur.size) (h1 : ∀ v ∈ cs, v.oneCell' = true) :
    (Builtin.copy_ #[dT, sT] ty #[.slice (some ⟨g, o, none⟩) dLen dCap, .slice (some a) sLen sCap]).run P w =
      .ok (goInt (Nat.min sLen dLen)) (w.setRow g (cur.toList.take o ++ cs ++ cur.toList.drop (o + cs.length)).toArray) := by
  have hl := run_loadCells_list (P := P) (w := w) a cs hsrc
  have hst := run_storeCells_at P g o t cs 0 cur w hg (by simpa using hfit) h1
  cases hq : P.info? elem with
  | none => simp [hq] at hs
  | some i =>
    have hi : i.size = k := by simpa [hq] using hs
    rw [hn] at hl
    simp [Builtin.copy_, run_underlying hu, Builtin.lenOf, Builtin.firstCells, sizeOf, typeInfo, hq, hi, hl, hst]
/-- the model's entry for slices.overlaps: two blocks, the second plain memory of the call's own -/
theorem hi_overlaps {P : Program} (w : World) (tS tR e : TypeId) (ht : P.underlying tS = some (.slice e)) (size : Nat) (hz : ∀ w, (Go.sizeOf e).run P w = .ok size w)
    (a b : Addr) (la ca lb cb : Nat) (hne : a.block ≠ b.block) (u : Value) (ha : w.cell? a = some u) (cur : Array Value) (tB : TypeId) (hb : w.heap[b.block]? = some (.cells cur tB (0, 0))) :
    (Extern.SlicesOverlaps.overlaps #[tS, tS] #[tR] #[.slice (some a) la ca, .slice (some b) lb cb]).run P w = .ok (.bool false) w := by
  have hnb : (a.block != b.block) = true := by simpa using hne
  have hnb' : (a.block == b.block) = false := by simpa using hne
  obtain ⟨ca0, ta, fa, hA⟩ : ∃ c t f, w.heap[a.block]? = some (.cells c t f) := by
    unfold World.cell? at ha
    cases h : w.heap[a.block]? with
    | none => rw [h] at ha; cases ha
    | some o =>
      cases o with
      | cells c t f => exact ⟨c, t, f, rfl⟩
      | _ => rw [h] at ha; cases ha
  have hca : ca0.size ≠ 0 := by
    intro h0
    have hs : a.spot.isSome = false := by
      cases hs : a.spot with
      | none => rfl
      | some s => simp [World.cell?, hA, hs] at ha
    simp [World.cell?, hA, hs] at ha
    have : ca0 = #[] := Array.size_eq_zero_iff.1 h0
    subst this
    simp at ha
  have hsa : w.shape? a.block = some (ta, ca0.size) := by simp [World.shape?, hA]
  have hsb : w.shape? b.block = some (tB, cur.size) := by simp [World.shape?, hb]
  have hfb : ∀ o, w.frozen? { block := b.block, off := o } = false := fun o => by simp [World.frozen?, hb]
  have hfb' : w.frozen? b = false := by simp [World.frozen?, hb]
  obtain ⟨n, hn⟩ : ∃ n, ca0.size = n + 1 := ⟨ca0.size - 1, by omega⟩
  rw [hn] at hsa
  refine Eq.trans (congrArg (fun z => Sem.run P z w) (show Extern.SlicesOverlaps.overlaps #[tS, tS] #[tR] #[.slice (some a) la ca, .slice (some b) lb cb] = (underlying tS >>= _) from rfl)) ?_
  by_cases h0 : la = 0 ∨ lb = 0 ∨ size = 0
  · simp [run_underlying ht, hz, h0]
  · cases h1 : w.frozen? a <;> cases h2 : w.frozen? { block := a.block, off := n + 1 } <;> cases h3 : cur.size <;> simp [run_underlying ht, hz, h0, hnb, hnb', frozen, noView, viewAt, mayBeOne, stringish, shape, Sem.run, hsa, hsb, hfb, hfb', h1, h2, h3]
set_option maxHeartbeats 4000000 in
set_option maxRecDepth 100000 in
theorem hi_shift (g n c i vc : Nat) (va : Addr) (x : S24) (l : List S24) (cur : Array Value) (w : World) (hn : l.length = n) (hi : i < n) (hroom : n + 1 ≤ c) (hc63 : c ≤ maxLen)
    (hg : w.heap[g]? = some (.cells cur 24 (0, 0))) (hcs : cur.size = c * 2) (hcur : cur.toList.take (n * 2) = hi_flat l) (hne : va.block ≠ g) (hx : ∀ j v, (hi_enc x)[j]? = some v → w.cell? (va.add j) = some v) :
    Calls Try.prog 27 #[.slice (some ⟨g, 0, none⟩) n c, .int .i64 i, .slice (some va) 1 vc] w fun e w' => e = .returned (.slice (some ⟨g, 0, none⟩) (n + 1) c) ∧
      ∃ cur2, w'.heap[g]? = some (.cells cur2 24 (0, 0)) ∧ cur2.size = c * 2 ∧ cur2.toList.take ((n + 1) * 2) = hi_flat (l.take i ++ x :: l.drop i) ∧ w.grownBy w' (some g) := by
  have hu := Try.underlying22
  have hsz : (Try.prog.info? 24).map (·.size) = some 2 := by kernel_rfl
  have mixed : Try.prog.follows .mixedOrders = true := by kernel_rfl
  have hx0 : w.cell? va = _ := hx 0 _ rfl
  have hab : ∀ j, (va.add j).block = va.block := fun j => by unfold Addr.add; split <;> rfl
  have hov : ∀ lb cb, (callFunc 34 #[.slice (some va) 1 vc, .slice (some ⟨g, (i + 1) * 2, none⟩) lb cb]).run Try.prog w = .ok (.value (.bool false)) w := fun lb cb => by
    rw [run_callFunc_extern Try.func34 (by kernel_rfl) (by kernel_rfl) (by kernel_rfl) (e := Extern.SlicesOverlaps.overlaps #[22, 22] #[4]) (by kernel_rfl),
      hi_overlaps w 22 4 24 hu 2 Try.sizeOf24 va ⟨g, (i + 1) * 2, none⟩ 1 vc lb cb hne _ hx0 cur 24 hg]
    rfl
  have hdl : (hi_flat (l.drop i)).length = (n - i) * 2 := by rw [hi_flat_len, List.length_drop, hn]
  have hsrc1 : ∀ j v, (hi_flat (l.drop i))[j]? = some v → w.drew.cell? ((⟨g, i * 2, none⟩ : Addr).add j) = some v := fun j v hj => by
    rw [Addr.add_lit]
    have hlt : j < (n - i) * 2 := by rw [← hdl]; exact (List.getElem?_eq_some_iff.1 hj).1
    have hv : cur[i * 2 + j]? = some v := by
      rw [← hi_flat_drop, List.getElem?_drop, ← hcur, List.getElem?_take] at hj
      rw [if_pos (by omega), Array.getElem?_toList] at hj
      exact hj
    show w.cell? ⟨g, i * 2 + j, none⟩ = some v
    simp [World.cell?, hg, hv]
  have hcp1 : ∀ ty dc sc, (Builtin.copy_ #[22, 22] ty #[.slice (some ⟨g, (i + 1) * 2, none⟩) (n - i) dc, .slice (some ⟨g, i * 2, none⟩) (n + 1 - i) sc]).run Try.prog w.drew = .ok _ _ := fun ty dc sc =>
    hi_copy w.drew 22 22 ty 24 g ((i + 1) * 2) (n - i) dc ⟨g, i * 2, none⟩ (n + 1 - i) sc 2 cur 24 (hi_flat (l.drop i)) hu hsz hg (by rw [hdl]; simp only [Nat.min_def]; split <;> omega) hsrc1 (by rw [hdl]; omega) (hi_one _)
  obtain ⟨row1, hrow1⟩ : ∃ r, r = (cur.toList.take ((i + 1) * 2) ++ hi_flat (l.drop i) ++ cur.toList.drop ((i + 1) * 2 + (hi_flat (l.drop i)).length)).toArray := ⟨_, rfl⟩
  obtain ⟨W1, hW1⟩ : ∃ W1, W1 = w.drew.setRow g row1 := ⟨_, rfl⟩
  rw [← hrow1, ← hW1] at hcp1
  have hg1 : W1.heap[g]? = some (.cells row1 24 (0, 0)) := by rw [hW1]; exact setRow_heap _ _ _ _ _ _ hg
  have hr1 : row1.size = c * 2 := by
    rw [hrow1]; simp only [List.size_toArray, List.length_append, List.length_take, List.length_drop, Array.length_toList, hdl, hcs]; omega
  have hxl : (hi_enc x).length = 2 := rfl
  have hcp2 : ∀ ty dc, (Builtin.copy_ #[22, 22] ty #[.slice (some ⟨g, i * 2, none⟩) (n + 1 - i) dc, .slice (some va) 1 vc]).run Try.prog W1 = .ok _ _ := fun ty dc =>
    hi_copy W1 22 22 ty 24 g (i * 2) (n + 1 - i) dc va 1 vc 2 row1 24 (hi_enc x) hu hsz hg1 (by rw [hxl]; simp only [Nat.min_def]; split <;> omega) (fun j v hj => by
      rw [hW1]
      have := hx j v hj
      rw [← this]
      simp only [World.cell?, World.setRow, hab]
      rw [Array.getElem?_modify, if_neg (Ne.symm hne)]
      rfl) (by rw [hxl, hr1]; omega) (fun v hv => by simp [hi_enc] at hv; rcases hv with rfl | rfl <;> rfl)
  obtain ⟨row2, hrow2⟩ : ∃ r, r = (row1.toList.take (i * 2) ++ hi_enc x ++ row1.toList.drop (i * 2 + (hi_enc x).length)).toArray := ⟨_, rfl⟩
  rw [← hrow2] at hcp2
  have hz2 : ¬ ((i : Int) = (n : Int)) := by omega
  have hc64 : c ≤ 9223372036854775807 := hc63
  have hw1 : IntKind.i64.wrap ((i : Int) + 1) = (i : Int) + 1 := by rw [IntKind.wrap_i64]; omega
  have hw2 : IntKind.i64.wrap ((n : Int) + 1) = (n : Int) + 1 := by rw [IntKind.wrap_i64]; omega
  have hb1 : (0 : Int) ≤ (i : Int) + 1 := by omega
  have hb0 : (0 : Int) ≤ (n : Int) + 1 := by omega
  have hin : i ≤ n := by omega
  have htn : ((i : Int) + 1).toNat = i + 1 := by omega
  have htm : ((n : Int) + 1).toNat = n + 1 := by omega
  have hb2 : ¬ (c = i + 1) := by omega
  have hb3 : (i : Int) ≤ (n : Int) + 1 := by omega
  have hb4 : ¬ (c = i) := by omega
  have hb5 : ¬ ((c : Int) < (n : Int) + 1) := by omega
  have hb6 : (n : Int) + 1 ≤ (c : Int) := by omega
  have HW1 : Hid (W1 = w.drew.setRow g row1) := hW1
  have HR1 : Hid (row1 = (cur.toList.take ((i + 1) * 2) ++ hi_flat (l.drop i) ++ cur.toList.drop ((i + 1) * 2 + (hi_flat (l.drop i)).length)).toArray) := hrow1
  have HR2 : Hid (row2 = (row1.toList.take (i * 2) ++ hi_enc x ++ row1.toList.drop (i * 2 + (hi_enc x).length)).toArray) := hrow2
  have HC : Hid (cur.toList.take (n * 2) = hi_flat l) := hcur
  clear hsrc1 hx hcur hW1 hrow1 hrow2 hab hc63
  go_enter Try.func27, Try.ntmps27
  go_wp2_with (simp only [hov])
  go_region_law_o (refine step_copy_runI rfl _ _ 22 22 rfl _ _ (by simp [Act.eval, Act.put]) (by simp [Act.eval, Act.put]) (hcp1 _ _ _) ?_)
  go_wp2_with (at_builtin; refine wpList_copy_runI _ rfl _ _ 22 22 rfl _ _ rfl rfl (hcp2 _ _) ?_)
  go_ret
  refine ⟨rfl, row2, setRow_heap _ _ _ _ _ _ hg1, ?_, ?_, ?_⟩
  · rw [HR2.out]; simp only [List.size_toArray, List.length_append, List.length_take, List.length_drop, Array.length_toList, hxl, hr1]; omega
  · have e1 : row1.toList = cur.toList.take ((i + 1) * 2) ++ (hi_flat (l.drop i) ++ cur.toList.drop ((n + 1) * 2)) := by
      rw [HR1.out, hdl, show (i + 1) * 2 + (n - i) * 2 = (n + 1) * 2 by omega]; simp
    have h1 : (cur.toList.take ((i + 1) * 2)).length = (i + 1) * 2 := by rw [List.length_take, Array.length_toList, hcs]; omega
    have e2 : row1.toList.take (i * 2) = hi_flat (l.take i) := by
      rw [e1, List.take_append_of_le_length (by rw [h1]; omega), List.take_take, Nat.min_eq_left (by omega), ← hi_flat_take, ← HC.out, List.take_take, Nat.min_eq_left (by omega)]
    have e3 : row1.toList.drop (i * 2 + 2) = hi_flat (l.drop i) ++ cur.toList.drop ((n + 1) * 2) := by
      rw [e1, show i * 2 + 2 = (cur.toList.take ((i + 1) * 2)).length by rw [h1]; omega, List.drop_left]
    rw [HR2.out, hxl, e2, e3]
    have h3 : (hi_flat (l.take i) ++ hi_enc x ++ hi_flat (l.drop i)).length = (n + 1) * 2 := by
      rw [List.length_append, List.length_append, hxl, hdl, hi_flat_len, List.length_take, hn]; omega
    rw [show (hi_flat (l.take i) ++ hi_enc x ++ (hi_flat (l.drop i) ++ cur.toList.drop ((n + 1) * 2))).toArray.toList = (hi_flat (l.take i) ++ hi_enc x ++ hi_flat (l.drop i)) ++ cur.toList.drop ((n + 1) * 2) by simp, ← h3, List.take_left]
    rw [hi_flat_app]
    simp [hi_flat]
  · rw [HW1.out]
    refine ⟨rfl, rfl, rfl, ?_, fun k hk hne2 => ?_⟩
    · have so : ∀ (W : World) r, (W.setRow g r).heap.size = W.heap.size := fun W r => by unfold World.setRow; exact Array.size_modify
      rw [so, so]
      exact Nat.le_refl _
    · have hkg : g ≠ k := fun e => hne2 (by rw [e])
      have so : ∀ (W : World) r, (W.setRow g r).heap[k]? = W.heap[k]? := fun W r => by
        unfold World.setRow
        show (W.heap.modify g _)[k]? = _
        rw [Array.getElem?_modify, if_neg hkg]
      rw [so, so]
      rfl
set_option maxHeartbeats 4000000 in
set_option maxRecDepth 100000 in
theorem hi_grow (g n c i vc : Nat) (va : Addr) (x : S24) (l : List S24) (cur : Array Value) (w : World) (hn : l.length = n) (hi : i < n) (hnc : n ≤ c) (hroom : c < n + 1) (hbig : (n + 1) * 16 ≤ 140737488355328)
    (hg : w.heap[g]? = some (.cells cur 24 (0, 0))) (hcs : cur.size = c * 2) (hcur : cur.toList.take (n * 2) = hi_flat l) (hx : ∀ j v, (hi_enc x)[j]? = some v → w.cell? (va.add j) = some v) :
    Calls Try.prog 27 #[.slice (some ⟨g, 0, none⟩) n c, .int .i64 i, .slice (some va) 1 vc] w fun e w' => ∃ G, e = .returned (.slice (some ⟨w.heap.size, 0, none⟩) (n + 1) G) ∧
      ∃ cur2, w'.heap[w.heap.size]? = some (.cells cur2 24 (0, 0)) ∧ n + 1 ≤ G ∧ G ≤ maxLen ∧ cur2.size = G * 2 ∧ cur2.toList.take ((n + 1) * 2) = hi_flat (l.take i ++ x :: l.drop i) ∧ Below w.heap.size w w' := by
  have hu := Try.underlying22
  obtain ⟨i0, hi0, hz0, hzs, hzb⟩ := info_parts (show (Try.prog.info? 24).map (fun i => (i.zero, i.size, i.bytes)) = some (some (.agg #[.int .i64 0, .int .i64 0]), 2, 16) by kernel_rfl)
  have hsz : (Try.prog.info? 24).map (·.size) = some 2 := by kernel_rfl
  have mixed : Try.prog.follows .mixedOrders = true := by kernel_rfl
  have hgl : g < w.heap.size := (Array.getElem?_eq_some_iff.1 hg).1
  have hab : ∀ j, (va.add j).block = va.block := fun j => by unfold Addr.add; split <;> rfl
  have hvl : va.block < w.heap.size := block_lt_of_cell (hx 0 _ rfl)
  have hold : (Builtin.firstCells i0.size i (.slice (some ⟨g, 0, none⟩) i c)).run Try.prog w.drew = .ok (hi_flat (l.take i)).toArray w.drew := by
    rw [hzs]
    exact run_firstCells_some w.drew 2 i ⟨g, 0, none⟩ i c (hi_flat (l.take i)) (by rw [hi_flat_len, List.length_take, hn]; omega) (fun j v hj => by
      rw [Addr.add_lit, Nat.zero_add]
      have hlt : j < i * 2 := by
        have := (List.getElem?_eq_some_iff.1 hj).1
        rw [hi_flat_len, List.length_take, hn] at this; omega
      rw [← hi_flat_take, List.getElem?_take, if_pos hlt, ← hcur, List.getElem?_take, if_pos (by omega), Array.getElem?_toList] at hj
      show w.cell? ⟨g, j, none⟩ = some v
      simp [World.cell?, hg, hj])
  have hkk : (n : Int) + 1 - (i : Int) = ((n + 1 - i : Nat) : Int) := by omega
  have hik : i + (n + 1 - i) = n + 1 := by omega
  have hrz : ∀ ty, (Builtin.append_ #[22, 3] ty #[.slice (some ⟨g, 0, none⟩) i c, .int .i64 ((n : Int) + 1 - (i : Int))]).run Try.prog w =
      .ok (.slice (some ⟨w.heap.size, 0, none⟩) (n + 1) (grownCap w (n + 1) c 24)) (w.drew.alloc (.cells ((hi_flat (l.take i)).toArray ++ Builtin.zeroCells (Value.agg #[.int .i64 0, .int .i64 0]).cells (n + 1 - i) ++ Builtin.zeroCells (Value.agg #[.int .i64 0, .int .i64 0]).cells (grownCap w (n + 1) c 24 - (n + 1))) 24)) := fun ty => by
    have h := Lib.run_append_grow_zeros w 22 3 ty 24 i0 _ .i64 .i64 hu Try.underlying3 hi0 hz0 (some ⟨g, 0, none⟩) i c (hi_flat (l.take i)) hold (n + 1 - i) (by omega) (by omega) (by omega) (by omega) (by rw [hzb]; omega) (by rw [hzb, hik]; exact growslice_fits hroom hbig)
    rw [hik] at h
    rw [hkk]
    exact h
  obtain ⟨G, hG⟩ : ∃ G, G = grownCap w (n + 1) c 24 := ⟨_, rfl⟩
  have hGn : n + 1 ≤ G := by rw [hG]; exact grownCap_ge w _ _ _
  have hGm : G ≤ maxLen := by rw [hG]; exact grownCap_le_maxLen w (n + 1) c 24 (by unfold maxLen; omega)
  rw [← hG] at hrz
  obtain ⟨ROW, hROW⟩ : ∃ ROW : Array Value, ROW = (hi_flat (l.take i)).toArray ++ Builtin.zeroCells (Value.agg #[.int .i64 0, .int .i64 0]).cells (n + 1 - i) ++ Builtin.zeroCells (Value.agg #[.int .i64 0, .int .i64 0]).cells (G - (n + 1)) := ⟨_, rfl⟩
  rw [← hROW] at hrz
  have hRs : ROW.size = G * 2 := by
    rw [hROW]
    simp only [Array.size_append, List.size_toArray, hi_flat_len, List.length_take, hn, Builtin.zeroCells, Value.cells, Array.size_map, Array.size_range]
    simp only [List.length_cons, List.length_nil]
    omega
  have hRt : ROW.toList.take (i * 2) = hi_flat (l.take i) := by
    have : (hi_flat (l.take i)).length = i * 2 := by rw [hi_flat_len, List.length_take, hn]; omega
    rw [hROW]
    simp only [Array.toList_append, List.append_assoc]
    rw [← this, List.take_left]
  obtain ⟨W1, hW1⟩ : ∃ W1, W1 = w.drew.alloc (.cells ROW 24) := ⟨_, rfl⟩
  rw [← hW1] at hrz
  have hg1 : W1.heap[w.heap.size]? = some (.cells ROW 24 (0, 0)) := by rw [hW1]; exact heap_alloc_new w.drew _
  have hk1 : ∀ k, k < w.heap.size → W1.heap[k]? = w.heap[k]? := fun k hk => by rw [hW1]; exact Below.heap_alloc w.drew _ k hk
  have hs1 : w.heap.size ≤ W1.heap.size := by rw [hW1]; simp
  have hdl : (hi_flat (l.drop i)).length = (n - i) * 2 := by rw [hi_flat_len, List.length_drop, hn]
  have hxl : (hi_enc x).length = 2 := rfl
  have so : ∀ (W : World) r k, k ≠ w.heap.size → (W.setRow w.heap.size r).heap[k]? = W.heap[k]? := fun W r k hk => by
    unfold World.setRow
    show (W.heap.modify w.heap.size _)[k]? = _
    rw [Array.getElem?_modify, if_neg (Ne.symm hk)]
  have sz : ∀ (W : World) r, (W.setRow w.heap.size r).heap.size = W.heap.size := fun W r => by unfold World.setRow; exact Array.size_modify
  have hcpA : ∀ ty dc, (Builtin.copy_ #[22, 22] ty #[.slice (some ⟨w.heap.size, i * 2, none⟩) (n + 1 - i) dc, .slice (some va) 1 vc]).run Try.prog W1 = .ok _ _ := fun ty dc =>
    hi_copy W1 22 22 ty 24 w.heap.size (i * 2) (n + 1 - i) dc va 1 vc 2 ROW 24 (hi_enc x) hu hsz hg1 (by rw [hxl]; simp only [Nat.min_def]; split <;> omega) (fun j v hj => by
      rw [← hx j v hj]
      simp only [World.cell?, hab]
      rw [hk1 va.block hvl]) (by rw [hxl, hRs]; omega) (fun v hv => by simp [hi_enc] at hv; rcases hv with rfl | rfl <;> rfl)
  obtain ⟨rowA, hrowA⟩ : ∃ r, r = (ROW.toList.take (i * 2) ++ hi_enc x ++ ROW.toList.drop (i * 2 + (hi_enc x).length)).toArray := ⟨_, rfl⟩
  obtain ⟨W2, hW2⟩ : ∃ W2, W2 = W1.setRow w.heap.size rowA := ⟨_, rfl⟩
  rw [← hrowA, ← hW2] at hcpA
  have hg2 : W2.heap[w.heap.size]? = some (.cells rowA 24 (0, 0)) := by rw [hW2]; exact setRow_heap _ _ _ _ _ _ hg1
  have hk2 : ∀ k, k < w.heap.size → W2.heap[k]? = w.heap[k]? := fun k hk => by rw [hW2, so _ _ _ (by omega)]; exact hk1 k hk
  have hAs : rowA.size = G * 2 := by
    rw [hrowA]; simp only [List.size_toArray, List.length_append, List.length_take, List.length_drop, Array.length_toList, hxl, hRs]; omega
  have hsrc : ∀ j v, (hi_flat (l.drop i))[j]? = some v → W2.drew.cell? ((⟨g, i * 2, none⟩ : Addr).add j) = some v := fun j v hj => by
    rw [Addr.add_lit]
    have hlt : j < (n - i) * 2 := by rw [← hdl]; exact (List.getElem?_eq_some_iff.1 hj).1
    have hv : cur[i * 2 + j]? = some v := by
      rw [← hi_flat_drop, List.getElem?_drop, ← hcur, List.getElem?_take] at hj
      rw [if_pos (by omega), Array.getElem?_toList] at hj
      exact hj
    show W2.cell? ⟨g, i * 2 + j, none⟩ = some v
    simp only [World.cell?]
    rw [hk2 g hgl, hg]
    simp [hv]
  have hcpB : ∀ ty dc sc, (Builtin.copy_ #[22, 22] ty #[.slice (some ⟨w.heap.size, (i + 1) * 2, none⟩) (n - i) dc, .slice (some ⟨g, i * 2, none⟩) (n - i) sc]).run Try.prog W2.drew = .ok _ _ := fun ty dc sc =>
    hi_copy W2.drew 22 22 ty 24 w.heap.size ((i + 1) * 2) (n - i) dc ⟨g, i * 2, none⟩ (n - i) sc 2 rowA 24 (hi_flat (l.drop i)) hu hsz hg2 (by rw [hdl]; simp only [Nat.min_def]; split <;> omega) hsrc (by rw [hdl, hAs]; omega) (hi_one _)
  obtain ⟨rowB, hrowB⟩ : ∃ r, r = (rowA.toList.take ((i + 1) * 2) ++ hi_flat (l.drop i) ++ rowA.toList.drop ((i + 1) * 2 + (hi_flat (l.drop i)).length)).toArray := ⟨_, rfl⟩
  rw [← hrowB] at hcpB
  have hz2 : ¬ ((i : Int) = (n : Int)) := by omega
  have hz3 : (c : Int) < (n : Int) + 1 := by omega
  have hw1 : IntKind.i64.wrap ((i : Int) + 1) = (i : Int) + 1 := by rw [IntKind.wrap_i64]; omega
  have hw2 : IntKind.i64.wrap ((n : Int) + 1) = (n : Int) + 1 := by rw [IntKind.wrap_i64]; omega
  have hw3 : IntKind.i64.wrap ((n : Int) + 1 - (i : Int)) = (n : Int) + 1 - (i : Int) := by rw [IntKind.wrap_i64]; omega
  have hb1 : (0 : Int) ≤ (i : Int) + 1 := by omega
  have hin : i ≤ n := by omega
  have hic : i ≤ c := by omega
  have hin1 : i ≤ n + 1 := by omega
  have hb3 : (i : Int) ≤ (n : Int) + 1 := by omega
  have htn : ((i : Int) + 1).toNat = i + 1 := by omega
  have hGi : ¬ (G = i) := by omega
  have hGim : ¬ (G = i + 1) := by omega
  have hci : ¬ (c = i) := by omega
  have HW1 : Hid (W1 = w.drew.alloc (.cells ROW 24)) := hW1
  have HW2 : Hid (W2 = W1.setRow w.heap.size rowA) := hW2
  have HRA : Hid (rowA = (ROW.toList.take (i * 2) ++ hi_enc x ++ ROW.toList.drop (i * 2 + (hi_enc x).length)).toArray) := hrowA
  have HRB : Hid (rowB = (rowA.toList.take ((i + 1) * 2) ++ hi_flat (l.drop i) ++ rowA.toList.drop ((i + 1) * 2 + (hi_flat (l.drop i)).length)).toArray) := hrowB
  have HRT : Hid (ROW.toList.take (i * 2) = hi_flat (l.take i)) := hRt
  have HK : Hid (∀ k, k < w.heap.size → W2.heap[k]? = w.heap[k]?) := hk2
  have HS : Hid (w.heap.size ≤ W2.heap.size) := by show w.heap.size ≤ W2.heap.size; rw [hW2, sz]; exact hs1
  have HO : Hid (W2.os = w.os ∧ W2.tape = w.tape ∧ W2.output = w.output) := by
    show W2.os = w.os ∧ W2.tape = w.tape ∧ W2.output = w.output
    rw [hW2, hW1]; exact ⟨rfl, rfl, rfl⟩
  clear hab hkk hik hsrc hx hcur hW1 hrowA hrowB hW2 hROW hG hRt hold hk1 hk2 hs1
  go_enter Try.func27, Try.ntmps27
  go_wp2_with (first
    | (at_builtin; refine Lib.wpList_append_run _ rfl _ _ _ _ rfl _ _ rfl rfl _ _ (hrz _) ?_)
    | (at_builtin; refine wpList_copy_runI _ rfl _ _ 22 22 rfl _ _ rfl rfl (hcpA _ _) ?_))
  go_region_law_o (refine step_copy_runI rfl _ _ 22 22 rfl (.slice (some ⟨w.heap.size, (i + 1) * 2, none⟩) (n - i) (G - (i + 1))) (.slice (some ⟨g, i * 2, none⟩) (n - i) (c - i)) (by simp [Act.eval, Act.put]) (by simp [Act.eval, Act.put]) (hcpB 3 (G - (i + 1)) (c - i)) ?_)
  go_wp2
  go_ret
  refine ⟨G, rfl, rowB, setRow_heap _ _ _ _ _ _ hg2, hGn, hGm, ?_, ?_, ?_⟩
  · rw [HRB.out]; simp only [List.size_toArray, List.length_append, List.length_take, List.length_drop, Array.length_toList, hdl, hAs]; omega
  · have e1 : rowA.toList = hi_flat (l.take i) ++ hi_enc x ++ ROW.toList.drop (i * 2 + 2) := by
      rw [HRA.out, hxl, HRT.out]
    have h1 : (hi_flat (l.take i) ++ hi_enc x).length = (i + 1) * 2 := by rw [List.length_append, hxl, hi_flat_len, List.length_take, hn]; omega
    have e2 : rowA.toList.take ((i + 1) * 2) = hi_flat (l.take i) ++ hi_enc x := by
      rw [e1, ← h1, List.take_left]
    rw [HRB.out, e2]
    have h3 : (hi_flat (l.take i) ++ hi_enc x ++ hi_flat (l.drop i)).length = (n + 1) * 2 := by
      rw [List.length_append, h1, hdl]; omega
    have e3 : ∀ z : List Value, (hi_flat (l.take i) ++ hi_enc x ++ hi_flat (l.drop i) ++ z).toArray.toList.take ((n + 1) * 2) = hi_flat (l.take i) ++ hi_enc x ++ hi_flat (l.drop i) := fun z => by
      rw [← h3]
      exact List.take_left
    rw [e3, hi_flat_app]
    simp [hi_flat]
  · refine ⟨HO.out.1, HO.out.2.1, HO.out.2.2, ?_, fun k hk => ?_⟩
    · rw [sz]; exact HS.out
    · rw [so _ _ _ (by omega)]
      exact HK.out k hk
def api_View_27.f (l0 : List (S24)) (a1 : Int) (l2 : List (S24)) : Option (List (S24)) := if 0 ≤ a1 ∧ a1 < l0.length ∧ l2.length = 1 ∧ l0.length < 8796093022207 then some (l0.take a1.toNat ++ l2 ++ l0.drop a1.toNat) else none
theorem api_View_27.calls (P0_ : Nat → Prop) (u9000_ : Value) (l0 : List (S24)) (a1 : Int) (A2 : Option Addr) (c2 : Nat) (l2 : List (S24)) (r : List (S24)) (w0 w : World) (hB : Below w0.heap.size w0 w) (ho0 : Kd.R k24 24 w w0.heap.size P0_ u9000_ l0) (hr2 : ∀ W_, Kept w W_ (fun k_ => P0_ k_) → Kd.C k24 W_ A2 l2.length l2) (hc2 : l2.length ≤ c2) (h : api_View_27.f l0 a1 l2 = some r) :
    Calls Try.prog 27 #[u9000_, .int .i64 a1, .slice A2 l2.length c2] w fun e w' => ∃ v0_ : Value, e = .returned (v0_) ∧ Kd.R k24 24 w' w0.heap.size (fun k_ => (P0_ k_ ∨ w.heap.size ≤ k_)) v0_ r ∧ Below w0.heap.size w0 w' ∧ Kept w w' (fun k_ => P0_ k_) := by
  unfold api_View_27.f at h
  split at h
  case isFalse => cases h
  rename_i hh
  obtain ⟨h0, h1, h2, h3⟩ := hh
  obtain ⟨x, rfl⟩ : ∃ x, l2 = [x] := by
    match l2, h2 with
    | [x], _ => exact ⟨x, rfl⟩
  obtain ⟨i, rfl⟩ := Int.eq_ofNat_of_zero_le h0
  have hil : i < l0.length := by omega
  have hr : r = l0.take i ++ x :: l0.drop i := by
    cases h
    simp
  subst hr
  clear h
  obtain ⟨hok, inner, ⟨hlen, hcase⟩, hreps⟩ := ho0
  have hfl := hi_reps k24.M hreps
  subst hfl
  have hlo : w0.heap.size ≤ w.heap.size := hB.size
  rcases hcase with ⟨_, hz⟩ | ⟨g, c, cur, rfl, hbase, hg, hnc, hcm, hcs, hcur⟩
  · omega
  have hP : P0_ g := hok g rfl
  obtain ⟨_, _, hC1⟩ := hr2 w (Kept.refl _ _)
  obtain ⟨va, rfl, hC2⟩ := hC1 (by simp)
  obtain ⟨cs, hcl, hK, hcell⟩ := hC2 0 x rfl
  have hcs2 : cs = hi_enc x := k24_open hK
  subst hcs2
  have hx : ∀ j v, (hi_enc x)[j]? = some v → w.cell? (va.add j) = some v := fun j v hj => by
    have := hcell j v hj
    rwa [Nat.zero_mul, Nat.zero_add] at this
  have hgl : g < w.heap.size := (Array.getElem?_eq_some_iff.1 hg).1
  by_cases hroom : l0.length + 1 ≤ c
  · have hne : va.block ≠ g := fun he => by
      have hk : Kept w (w.setRow g #[]) (fun k_ => P0_ k_) := by
        refine ⟨by unfold World.setRow; rw [Array.size_modify]; exact Nat.le_refl _, fun k hk hn => ?_⟩
        have hkg : g ≠ k := fun e => hn (e ▸ hP)
        unfold World.setRow
        show (w.heap.modify g _)[k]? = _
        rw [Array.getElem?_modify, if_neg hkg]
      obtain ⟨_, _, hD1⟩ := hr2 _ hk
      obtain ⟨vb, hvb, hD2⟩ := hD1 (by simp)
      cases hvb
      obtain ⟨cs, hcl, hK, hcell2⟩ := hD2 0 x rfl
      have hcs2 : cs = hi_enc x := k24_open hK
      subst hcs2
      have hb := hcell2 1 _ rfl
      have hg0 := setRow_heap w g cur #[] 24 (0, 0) hg
      rw [show va.add (0 * k24.sz + 1) = ⟨va.block, va.off + 1, none⟩ from rfl] at hb
      simp only [World.cell?, he, hg0] at hb
      simp at hb
    refine Calls.mono (hi_shift g l0.length c i c2 va x l0 cur w rfl hil hroom hcm hg hcs hcur hne hx) ?_
    intro e w' ⟨he, cur2, hg2, hcs2, hcur2, hgr⟩
    have hkp : Kept w w' (fun k_ => P0_ k_) := Kept.of_grown hgr (Kept.refl _ _) (fun k hk => .inl (by cases hk; exact hP))
    refine ⟨_, he, ⟨fun k hk => ?_, hi_flat _, ⟨?_, .inr ⟨g, c, cur2, ?_, hbase, hg2, ?_, hcm, hcs2, ?_⟩⟩, hi_reps_of _ _ _ _⟩, ?_, hkp⟩
    · cases hk; exact .inl hP
    · exact hi_flat_len _
    · simp; omega
    · simp; omega
    · rw [← hcur2]; exact congrArg (fun z => cur2.toList.take (z * 2)) (by simp; omega)
    · exact hB.grown hgr hlo (fun k hk => by cases hk; exact hbase)
  · have hroom2 : c < l0.length + 1 := by omega
    refine Calls.mono (hi_grow g l0.length c i c2 va x l0 cur w rfl hil hnc hroom2 (by omega) hg hcs hcur hx) ?_
    intro e w' ⟨G, he, cur2, hg2, hGn, hGm, hcs2, hcur2, hbl⟩
    refine ⟨_, he, ⟨fun k hk => ?_, hi_flat _, ⟨?_, .inr ⟨w.heap.size, G, cur2, ?_, hlo, hg2, ?_, hGm, hcs2, ?_⟩⟩, hi_reps_of _ _ _ _⟩, ?_, Kept.of_below hbl _⟩
    · cases hk; exact .inr (Nat.le_refl _)
    · exact hi_flat_len _
    · simp; omega
    · simp; omega
    · rw [← hcur2]; exact congrArg (fun z => cur2.toList.take (z * 2)) (by simp; omega)
    · exact below_weaken hB hlo hbl
end

end Go.Proofs.Ytjfmhahlmnnacaa.PFrontTurns
