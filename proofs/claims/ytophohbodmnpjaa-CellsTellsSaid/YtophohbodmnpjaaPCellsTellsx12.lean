/- Written by a program of this session (wip/tool/px.py) over the kit's print: what the code that the law CellsTells reaches computes, function by function, and the law's row. -/
import Derived.Test.YtophohbodmnpjaaPCellsTellsx0
import Derived.Test.YtophohbodmnpjaaPCellsTellsx1
import Derived.Test.YtophohbodmnpjaaPCellsTellsx11
namespace Go.Proofs.Ytophohbodmnpjaa.PCellsTells
open Go.RowKit Go.Proofs.YtophohbodmnpjaaX Go.Proofs.YtophohbodmnpjaaW.PrintWords Go.Proofs.YtophohbodmnpjaaW.PrintLast Go.Proofs.YtophohbodmnpjaaW.PrintMore
attribute [local go_sem] max2_int min2_int max_two min_two max_three min_three max_four min_four   -- for this text's walks alone
set_option linter.unusedVariables false
set_option linter.unusedSimpArgs false

attribute [local go_sem] px_nilq36
attribute [local go_sem high] eqA25
/-! ### ropewayref05_Less: function 18 -/
def ropewayref05_Less.f (k : Nat) (a0_0 : Int) (a0_1 : Int) (a1_0 : Int) (a1_1 : Int) : Option (Bool) := (ropewayref04_Size.f k a0_0 a0_1).bind fun t313 => ((ropewayref04_Size.f k a1_0 a1_1).bind fun t314 => (if t313 = t314 then ((ropewayref04_Name.f a0_0 a0_1).bind fun t315 => ((ropewayref04_Name.f a1_0 a1_1).bind fun t316 => (some (decide (t315 < t316))))) else ((ropewayref04_Size.f k a0_0 a0_1).bind fun t317 => ((ropewayref04_Size.f k a1_0 a1_1).bind fun t318 => (some (decide (t317 < t318)))))))
theorem ropewayref05_Less.mono : ∀ a0 a1 a2 a3 k, LeO (ropewayref05_Less.f k a0 a1 a2 a3) (ropewayref05_Less.f (k + 1) a0 a1 a2 a3) := by
  intro a0 a1 a2 a3 k
  unfold ropewayref05_Less.f
  repeat' first
      | (with_reducible exact ropewayref04_Size.mono _ _ _)
      | (with_reducible exact LeO.refl _)
      | (with_reducible exact LeO.none _)
      | (with_reducible refine LeO.ite ?_ ?_)
      | (with_reducible refine LeO.bind ?_ (fun _ => ?_))
      | exact ropewayref04_Size.mono _ _ _
      | exact LeO.none _
      | refine LeO.ite ?_ ?_
      | refine LeO.bind ?_ (fun _ => ?_)
set_option maxHeartbeats 8000000 in
set_option maxRecDepth 100000 in
theorem ropewayref05_Less.calls (k : Nat) (a0_0 : Int) (a0_1 : Int) (a1_0 : Int) (a1_1 : Int) (r : Bool) (w : World) (h : ropewayref05_Less.f k a0_0 a0_1 a1_0 a1_1 = some r) :
    Calls Try.prog 18 #[.agg #[.int .i64 a0_0, .int .i64 a0_1], .agg #[.int .i64 a1_0, .int .i64 a1_1]] w fun e w' => e = .returned (.bool r) ∧ Below w.heap.size w w' := by
  have hu25 := Try.underlying25
  have HB := Aside0.mk (Below.refl w.heap.size w)
  have H : ((ropewayref04_Size.f k a0_0 a0_1).bind fun t313 => ((ropewayref04_Size.f k a1_0 a1_1).bind fun t314 => (if t313 = t314 then ((ropewayref04_Name.f a0_0 a0_1).bind fun t315 => ((ropewayref04_Name.f a1_0 a1_1).bind fun t316 => (some (decide (t315 < t316))))) else ((ropewayref04_Size.f k a0_0 a0_1).bind fun t317 => ((ropewayref04_Size.f k a1_0 a1_1).bind fun t318 => (some (decide (t317 < t318)))))))) = some r := h
  clear h
  replace H := Option.bind_eq_some_iff.mp H
  obtain ⟨t313, A30, H⟩ := H
  replace H : ((ropewayref04_Size.f k a1_0 a1_1).bind fun t314 => (if t313 = t314 then ((ropewayref04_Name.f a0_0 a0_1).bind fun t315 => ((ropewayref04_Name.f a1_0 a1_1).bind fun t316 => (some (decide (t315 < t316))))) else ((ropewayref04_Size.f k a0_0 a0_1).bind fun t317 => ((ropewayref04_Size.f k a1_0 a1_1).bind fun t318 => (some (decide (t317 < t318))))))) = some r := H
  have A3 := Aside0.mk A30
  clear A30
  replace H := Option.bind_eq_some_iff.mp H
  obtain ⟨t314, A40, H⟩ := H
  replace H : (if t313 = t314 then ((ropewayref04_Name.f a0_0 a0_1).bind fun t315 => ((ropewayref04_Name.f a1_0 a1_1).bind fun t316 => (some (decide (t315 < t316))))) else ((ropewayref04_Size.f k a0_0 a0_1).bind fun t317 => ((ropewayref04_Size.f k a1_0 a1_1).bind fun t318 => (some (decide (t317 < t318)))))) = some r := H
  have A4 := Aside0.mk A40
  clear A40
  by_cases c5 : t313 = t314
  · rw [if_pos c5] at H
    have c5b0 : (t313 == t314) = true := beq_iff_eq.mpr c5
    have c5b1 : (t313 != t314) = false := bne_eq_false_iff_eq.mpr c5
    clear c5
    replace H := Option.bind_eq_some_iff.mp H
    obtain ⟨t315, A60, H⟩ := H
    replace H : ((ropewayref04_Name.f a1_0 a1_1).bind fun t316 => (some (decide (t315 < t316)))) = some r := H
    have A6 := Aside0.mk A60
    clear A60
    replace H := Option.bind_eq_some_iff.mp H
    obtain ⟨t316, A70, H⟩ := H
    replace H : (some (decide (t315 < t316))) = some r := H
    have A7 := Aside0.mk A70
    clear A70
    obtain rfl := Option.some.inj H
    go_enter Try.func18, Try.ntmps18
    try go_wp2_with (first | ((with_reducible refine gate_dst (N := 2) rfl ?_); refine box_event ?hg (N := 2) ?hd (cs := #[.int .i64 a0_0, .int .i64 a0_1]) (t := 25) ?hr ?_; (case hd => rfl); (case hg => rfl); (case hr => first | (go_simp; done) | (go_simp; rfl)); intro gb311 hg w8 hbox hb; have n0_ := Aside0.mk (below_step bel_ hb); have n1_ := Aside0.mk (hbox); have n2_ := Aside0.mk (bs_ hg); have n3_ := Aside0.mk (bs_ hg); clear HB; have HB := n0_; have BK311 := n1_; have GW311 := n2_; have GE311 := n3_; clear n0_ n1_ n2_ n3_; clear hb hbox hg) | ((with_reducible refine gate_dst (N := 3) rfl ?_); refine box_event ?hg (N := 3) ?hd (cs := #[.int .i64 a1_0, .int .i64 a1_1]) (t := 25) ?hr ?_; (case hd => rfl); (case hg => rfl); (case hr => first | (go_simp; done) | (go_simp; rfl)); intro gb312 hg w9 hbox hb; have n0_ := Aside0.mk (bb_ BK311 hb); have n1_ := Aside0.mk (below_step bel_ hb); have n2_ := Aside0.mk (hbox); have n3_ := Aside0.mk (bs_ hg); have n4_ := Aside0.mk (bs_ hg); have n5_ := Aside0.mk (nl_ BK311 hg); have n6_ := Aside0.mk (ng_ BK311 hg); clear BK311; clear HB; have BK311 := n0_; have HB := n1_; have BK312 := n2_; have GW312 := n3_; have GE312 := n4_; have NB311_312 := n5_; have NB312_311 := n6_; clear n0_ n1_ n2_ n3_ n4_ n5_ n6_; clear hb hbox hg))
    have n0_ := Aside0.mk (blk_drew BK311.out)
    have n1_ := Aside0.mk (blk_drew BK312.out)
    have n2_ := Aside0.mk (below_drew1 HB.out)
    clear BK311
    clear BK312
    clear HB
    have BK311 := n0_
    have BK312 := n1_
    have HB := n2_
    clear n0_ n1_ n2_
    refine start_ (n := 5) (S := fun w' => w'.cell? ⟨gb311, 0, none⟩ = some (.int .i64 a0_0) ∧ w'.cell? ⟨gb311, 1, none⟩ = some (.int .i64 a0_1) ∧ w'.cell? ⟨gb312, 0, none⟩ = some (.int .i64 a1_0) ∧ w'.cell? ⟨gb312, 1, none⟩ = some (.int .i64 a1_1)) (ds := []) #[F_, F_, F_, F_, F_] (by kernel_rfl) rfl rfl ⟨(blk_cell BK311.out 0).trans rfl, (blk_cell BK311.out 1).trans rfl, (blk_cell BK312.out 0).trans rfl, (blk_cell BK312.out 1).trans rfl⟩ (fun hHeld => ?_)
    generalize w9.drew = w10 at BK311 BK312 HB hHeld ⊢
    refine take_ (i := 0) (N := some 5) (v := ?_) (a' := ?_) #[T_, F_, F_, F_, F_] rfl rfl (by kernel_rfl) (fun _ _ _ h => h) (Or.inl ⟨by rfl, ?_⟩) hHeld ?_ ?_
    rotate_left
    · rintro w' ⟨s0, s1, s2, s3⟩
      go_simp
      with_reducible rfl
    rotate_left
    · simp only [Act.put, List.setIfInBounds_toArray, List.set_cons_zero, List.set_cons_succ, i64_w, i32_w]
      rfl
    refine take_ (i := 2) (N := some 7) (v := ?_) (a' := ?_) #[T_, F_, T_, F_, F_] rfl rfl (by kernel_rfl) (fun _ _ _ h => h) (Or.inl ⟨by rfl, ?_⟩) hHeld ?_ ?_
    rotate_left
    · rintro w' ⟨s0, s1, s2, s3⟩
      go_simp
      with_reducible rfl
    rotate_left
    · simp only [Act.put, List.setIfInBounds_toArray, List.set_cons_zero, List.set_cons_succ, i64_w, i32_w]
      rfl
    refine one_ (i := 1) (N := some 6) #[T_, T_, T_, F_, F_] rfl rfl (by kernel_rfl) (by decide) (fun K hK => ?_)
    refine goes_ Try.func47 (by kernel_rfl) rfl #[.agg #[.int .i64 a0_0, .int .i64 a0_1]] (by rfl) rfl rfl (by (try simp only [List.map_toArray, List.map_cons, List.map_nil]); first | done | rfl | (simp only [List.length_drop, List.length_take]; rfl)) ?_
    with_reducible refine (ropewayref04_Size.calls k a0_0 a0_1 t313 _ A3.out).mono ?_
    rintro e w11 ⟨rfl, hb⟩
    refine ⟨_, rfl, ?_⟩
    have n0_ := Aside0.mk (bb_ BK311 hb)
    have n1_ := Aside0.mk (bb_ BK312 hb)
    have n2_ := Aside0.mk (below_step bel_ hb)
    clear BK311
    clear BK312
    clear HB
    have BK311 := n0_
    have BK312 := n1_
    have HB := n2_
    clear n0_ n1_ n2_
    (try clear hb)
    (try clear hb2)
    (try clear hk)
    (try clear hi)
    refine hK.out _ _ ⟨(blk_cell BK311.out 0).trans rfl, (blk_cell BK311.out 1).trans rfl, (blk_cell BK312.out 0).trans rfl, (blk_cell BK312.out 1).trans rfl⟩ (fun hHeld => ?_)
    clear hK K
    refine norm_ (a' := ?_) ?_ ?_
    rotate_left
    · show Act.put _ (some 6) _ = _
      simp only [Act.put, List.setIfInBounds_toArray, List.set_cons_zero, List.set_cons_succ, i64_w, i32_w]
      rfl
    refine one_ (i := 3) (N := some 8) #[T_, T_, T_, T_, F_] rfl rfl (by kernel_rfl) (by decide) (fun K hK => ?_)
    refine goes_ Try.func47 (by kernel_rfl) rfl #[.agg #[.int .i64 a1_0, .int .i64 a1_1]] (by rfl) rfl rfl (by (try simp only [List.map_toArray, List.map_cons, List.map_nil]); first | done | rfl | (simp only [List.length_drop, List.length_take]; rfl)) ?_
    with_reducible refine (ropewayref04_Size.calls k a1_0 a1_1 t314 _ A4.out).mono ?_
    rintro e w12 ⟨rfl, hb⟩
    refine ⟨_, rfl, ?_⟩
    have n0_ := Aside0.mk (bb_ BK311 hb)
    have n1_ := Aside0.mk (bb_ BK312 hb)
    have n2_ := Aside0.mk (below_step bel_ hb)
    clear BK311
    clear BK312
    clear HB
    have BK311 := n0_
    have BK312 := n1_
    have HB := n2_
    clear n0_ n1_ n2_
    (try clear hb)
    (try clear hb2)
    (try clear hk)
    (try clear hi)
    refine hK.out _ _ ⟨(blk_cell BK311.out 0).trans rfl, (blk_cell BK311.out 1).trans rfl, (blk_cell BK312.out 0).trans rfl, (blk_cell BK312.out 1).trans rfl⟩ (fun hHeld => ?_)
    clear hK K
    refine norm_ (a' := ?_) ?_ ?_
    rotate_left
    · show Act.put _ (some 8) _ = _
      simp only [Act.put, List.setIfInBounds_toArray, List.set_cons_zero, List.set_cons_succ, i64_w, i32_w]
      rfl
    refine pure_ (i := 4) (N := some 9) (v := ?_) (a' := ?_) #[T_, T_, T_, T_, T_] rfl rfl (by kernel_rfl) (fun _ _ _ h => h) (Or.inl ⟨by rfl, ?_⟩) ?_ ?_
    rotate_left
    · intro w'
      go_simp
      with_reducible rfl
    rotate_left
    · simp only [Act.put, List.setIfInBounds_toArray, List.set_cons_zero, List.set_cons_succ, i64_w, i32_w]
      rfl
    refine done_ (by kernel_rfl) ?_
    try go_wp2
    have n0_ := Aside0.mk (blk_drew BK311.out)
    have n1_ := Aside0.mk (blk_drew BK312.out)
    have n2_ := Aside0.mk (below_drew1 HB.out)
    clear BK311
    clear BK312
    clear HB
    have BK311 := n0_
    have BK312 := n1_
    have HB := n2_
    clear n0_ n1_ n2_
    refine start_ (n := 6) (S := fun w' => w'.cell? ⟨gb311, 0, none⟩ = some (.int .i64 a0_0) ∧ w'.cell? ⟨gb311, 1, none⟩ = some (.int .i64 a0_1) ∧ w'.cell? ⟨gb312, 0, none⟩ = some (.int .i64 a1_0) ∧ w'.cell? ⟨gb312, 1, none⟩ = some (.int .i64 a1_1)) (ds := []) #[F_, F_, F_, F_, F_, F_] (by kernel_rfl) rfl rfl ⟨(blk_cell BK311.out 0).trans rfl, (blk_cell BK311.out 1).trans rfl, (blk_cell BK312.out 0).trans rfl, (blk_cell BK312.out 1).trans rfl⟩ (fun hHeld => ?_)
    generalize w12.drew = w13 at BK311 BK312 HB hHeld ⊢
    refine take_ (i := 0) (N := some 15) (v := ?_) (a' := ?_) #[T_, F_, F_, F_, F_, F_] rfl rfl (by kernel_rfl) (fun _ _ _ h => h) (Or.inl ⟨by rfl, ?_⟩) hHeld ?_ ?_
    rotate_left
    · rintro w' ⟨s0, s1, s2, s3⟩
      go_simp
      with_reducible rfl
    rotate_left
    · simp only [Act.put, List.setIfInBounds_toArray, List.set_cons_zero, List.set_cons_succ, i64_w, i32_w]
      rfl
    refine take_ (i := 2) (N := some 17) (v := ?_) (a' := ?_) #[T_, F_, T_, F_, F_, F_] rfl rfl (by kernel_rfl) (fun _ _ _ h => h) (Or.inl ⟨by rfl, ?_⟩) hHeld ?_ ?_
    rotate_left
    · rintro w' ⟨s0, s1, s2, s3⟩
      go_simp
      with_reducible rfl
    rotate_left
    · simp only [Act.put, List.setIfInBounds_toArray, List.set_cons_zero, List.set_cons_succ, i64_w, i32_w]
      rfl
    refine one_ (i := 1) (N := some 16) #[T_, T_, T_, F_, F_, F_] rfl rfl (by kernel_rfl) (by decide) (fun K hK => ?_)
    refine goes_ Try.func48 (by kernel_rfl) rfl #[.agg #[.int .i64 a0_0, .int .i64 a0_1]] (by rfl) rfl rfl (by (try simp only [List.map_toArray, List.map_cons, List.map_nil]); first | done | rfl | (simp only [List.length_drop, List.length_take]; rfl)) ?_
    with_reducible refine (ropewayref04_Name.calls a0_0 a0_1 t315 _ A6.out).mono ?_
    rintro e w14 ⟨rfl, hb⟩
    refine ⟨_, rfl, ?_⟩
    have n0_ := Aside0.mk (bb_ BK311 hb)
    have n1_ := Aside0.mk (bb_ BK312 hb)
    have n2_ := Aside0.mk (below_step bel_ hb)
    clear BK311
    clear BK312
    clear HB
    have BK311 := n0_
    have BK312 := n1_
    have HB := n2_
    clear n0_ n1_ n2_
    (try clear hb)
    (try clear hb2)
    (try clear hk)
    (try clear hi)
    refine hK.out _ _ ⟨(blk_cell BK311.out 0).trans rfl, (blk_cell BK311.out 1).trans rfl, (blk_cell BK312.out 0).trans rfl, (blk_cell BK312.out 1).trans rfl⟩ (fun hHeld => ?_)
    clear hK K
    refine norm_ (a' := ?_) ?_ ?_
    rotate_left
    · show Act.put _ (some 16) _ = _
      simp only [Act.put, List.setIfInBounds_toArray, List.set_cons_zero, List.set_cons_succ, i64_w, i32_w]
      rfl
    refine one_ (i := 3) (N := some 18) #[T_, T_, T_, T_, F_, F_] rfl rfl (by kernel_rfl) (by decide) (fun K hK => ?_)
    refine goes_ Try.func48 (by kernel_rfl) rfl #[.agg #[.int .i64 a1_0, .int .i64 a1_1]] (by rfl) rfl rfl (by (try simp only [List.map_toArray, List.map_cons, List.map_nil]); first | done | rfl | (simp only [List.length_drop, List.length_take]; rfl)) ?_
    with_reducible refine (ropewayref04_Name.calls a1_0 a1_1 t316 _ A7.out).mono ?_
    rintro e w15 ⟨rfl, hb⟩
    refine ⟨_, rfl, ?_⟩
    have n0_ := Aside0.mk (bb_ BK311 hb)
    have n1_ := Aside0.mk (bb_ BK312 hb)
    have n2_ := Aside0.mk (below_step bel_ hb)
    clear BK311
    clear BK312
    clear HB
    have BK311 := n0_
    have BK312 := n1_
    have HB := n2_
    clear n0_ n1_ n2_
    (try clear hb)
    (try clear hb2)
    (try clear hk)
    (try clear hi)
    refine hK.out _ _ ⟨(blk_cell BK311.out 0).trans rfl, (blk_cell BK311.out 1).trans rfl, (blk_cell BK312.out 0).trans rfl, (blk_cell BK312.out 1).trans rfl⟩ (fun hHeld => ?_)
    clear hK K
    refine norm_ (a' := ?_) ?_ ?_
    rotate_left
    · show Act.put _ (some 18) _ = _
      simp only [Act.put, List.setIfInBounds_toArray, List.set_cons_zero, List.set_cons_succ, i64_w, i32_w]
      rfl
    refine pure_ (i := 4) (N := some 19) (v := ?_) (a' := ?_) #[T_, T_, T_, T_, T_, F_] rfl rfl (by kernel_rfl) (fun _ _ _ h => h) (Or.inl ⟨by rfl, ?_⟩) ?_ ?_
    rotate_left
    · intro w'
      go_simp
      with_reducible rfl
    rotate_left
    · simp only [Act.put, List.setIfInBounds_toArray, List.set_cons_zero, List.set_cons_succ, i64_w, i32_w]
      rfl
    refine pure_ (i := 5) (N := some 4) (v := ?_) (a' := ?_) #[T_, T_, T_, T_, T_, T_] rfl rfl (by kernel_rfl) (fun _ _ _ h => h) (Or.inl ⟨by rfl, ?_⟩) ?_ ?_
    rotate_left
    · intro w'
      go_simp
      with_reducible rfl
    rotate_left
    · simp only [Act.put, List.setIfInBounds_toArray, List.set_cons_zero, List.set_cons_succ, i64_w, i32_w]
      rfl
    refine done_ (by kernel_rfl) ?_
    try go_wp2
    go_ret
    exact ⟨by first | rfl | (simp [errW_none, errW_some] <;> rfl) | (simp [*, errW_none, errW_some] <;> rfl), bel_⟩
  rw [if_neg c5] at H
  have c5b0 : (t313 == t314) = false := beq_eq_false_iff_ne.mpr c5
  have c5b1 : (t313 != t314) = true := bne_iff_ne.mpr c5
  replace H := Option.bind_eq_some_iff.mp H
  obtain ⟨t317, A160, H⟩ := H
  replace H : ((ropewayref04_Size.f k a1_0 a1_1).bind fun t318 => (some (decide (t317 < t318)))) = some r := H
  have A16 := Aside0.mk A160
  clear A160
  replace H := Option.bind_eq_some_iff.mp H
  obtain ⟨t318, A170, H⟩ := H
  replace H : (some (decide (t317 < t318))) = some r := H
  have A17 := Aside0.mk A170
  clear A170
  obtain rfl := Option.some.inj H
  go_enter Try.func18, Try.ntmps18
  try go_wp2_with (first | ((with_reducible refine gate_dst (N := 2) rfl ?_); refine box_event ?hg (N := 2) ?hd (cs := #[.int .i64 a0_0, .int .i64 a0_1]) (t := 25) ?hr ?_; (case hd => rfl); (case hg => rfl); (case hr => first | (go_simp; done) | (go_simp; rfl)); intro gb311 hg w18 hbox hb; have n0_ := Aside0.mk (below_step bel_ hb); have n1_ := Aside0.mk (hbox); have n2_ := Aside0.mk (bs_ hg); have n3_ := Aside0.mk (bs_ hg); clear HB; have HB := n0_; have BK311 := n1_; have GW311 := n2_; have GE311 := n3_; clear n0_ n1_ n2_ n3_; clear hb hbox hg) | ((with_reducible refine gate_dst (N := 3) rfl ?_); refine box_event ?hg (N := 3) ?hd (cs := #[.int .i64 a1_0, .int .i64 a1_1]) (t := 25) ?hr ?_; (case hd => rfl); (case hg => rfl); (case hr => first | (go_simp; done) | (go_simp; rfl)); intro gb312 hg w19 hbox hb; have n0_ := Aside0.mk (bb_ BK311 hb); have n1_ := Aside0.mk (below_step bel_ hb); have n2_ := Aside0.mk (hbox); have n3_ := Aside0.mk (bs_ hg); have n4_ := Aside0.mk (bs_ hg); have n5_ := Aside0.mk (nl_ BK311 hg); have n6_ := Aside0.mk (ng_ BK311 hg); clear BK311; clear HB; have BK311 := n0_; have HB := n1_; have BK312 := n2_; have GW312 := n3_; have GE312 := n4_; have NB311_312 := n5_; have NB312_311 := n6_; clear n0_ n1_ n2_ n3_ n4_ n5_ n6_; clear hb hbox hg))
  have n0_ := Aside0.mk (blk_drew BK311.out)
  have n1_ := Aside0.mk (blk_drew BK312.out)
  have n2_ := Aside0.mk (below_drew1 HB.out)
  clear BK311
  clear BK312
  clear HB
  have BK311 := n0_
  have BK312 := n1_
  have HB := n2_
  clear n0_ n1_ n2_
  refine start_ (n := 5) (S := fun w' => w'.cell? ⟨gb311, 0, none⟩ = some (.int .i64 a0_0) ∧ w'.cell? ⟨gb311, 1, none⟩ = some (.int .i64 a0_1) ∧ w'.cell? ⟨gb312, 0, none⟩ = some (.int .i64 a1_0) ∧ w'.cell? ⟨gb312, 1, none⟩ = some (.int .i64 a1_1)) (ds := []) #[F_, F_, F_, F_, F_] (by kernel_rfl) rfl rfl ⟨(blk_cell BK311.out 0).trans rfl, (blk_cell BK311.out 1).trans rfl, (blk_cell BK312.out 0).trans rfl, (blk_cell BK312.out 1).trans rfl⟩ (fun hHeld => ?_)
  generalize w19.drew = w20 at BK311 BK312 HB hHeld ⊢
  refine take_ (i := 0) (N := some 5) (v := ?_) (a' := ?_) #[T_, F_, F_, F_, F_] rfl rfl (by kernel_rfl) (fun _ _ _ h => h) (Or.inl ⟨by rfl, ?_⟩) hHeld ?_ ?_
  rotate_left
  · rintro w' ⟨s0, s1, s2, s3⟩
    go_simp
    with_reducible rfl
  rotate_left
  · simp only [Act.put, List.setIfInBounds_toArray, List.set_cons_zero, List.set_cons_succ, i64_w, i32_w]
    rfl
  refine take_ (i := 2) (N := some 7) (v := ?_) (a' := ?_) #[T_, F_, T_, F_, F_] rfl rfl (by kernel_rfl) (fun _ _ _ h => h) (Or.inl ⟨by rfl, ?_⟩) hHeld ?_ ?_
  rotate_left
  · rintro w' ⟨s0, s1, s2, s3⟩
    go_simp
    with_reducible rfl
  rotate_left
  · simp only [Act.put, List.setIfInBounds_toArray, List.set_cons_zero, List.set_cons_succ, i64_w, i32_w]
    rfl
  refine one_ (i := 1) (N := some 6) #[T_, T_, T_, F_, F_] rfl rfl (by kernel_rfl) (by decide) (fun K hK => ?_)
  refine goes_ Try.func47 (by kernel_rfl) rfl #[.agg #[.int .i64 a0_0, .int .i64 a0_1]] (by rfl) rfl rfl (by (try simp only [List.map_toArray, List.map_cons, List.map_nil]); first | done | rfl | (simp only [List.length_drop, List.length_take]; rfl)) ?_
  with_reducible refine (ropewayref04_Size.calls k a0_0 a0_1 t313 _ A3.out).mono ?_
  rintro e w21 ⟨rfl, hb⟩
  refine ⟨_, rfl, ?_⟩
  have n0_ := Aside0.mk (bb_ BK311 hb)
  have n1_ := Aside0.mk (bb_ BK312 hb)
  have n2_ := Aside0.mk (below_step bel_ hb)
  clear BK311
  clear BK312
  clear HB
  have BK311 := n0_
  have BK312 := n1_
  have HB := n2_
  clear n0_ n1_ n2_
  (try clear hb)
  (try clear hb2)
  (try clear hk)
  (try clear hi)
  refine hK.out _ _ ⟨(blk_cell BK311.out 0).trans rfl, (blk_cell BK311.out 1).trans rfl, (blk_cell BK312.out 0).trans rfl, (blk_cell BK312.out 1).trans rfl⟩ (fun hHeld => ?_)
  clear hK K
  refine norm_ (a' := ?_) ?_ ?_
  rotate_left
  · show Act.put _ (some 6) _ = _
    simp only [Act.put, List.setIfInBounds_toArray, List.set_cons_zero, List.set_cons_succ, i64_w, i32_w]
    rfl
  refine one_ (i := 3) (N := some 8) #[T_, T_, T_, T_, F_] rfl rfl (by kernel_rfl) (by decide) (fun K hK => ?_)
  refine goes_ Try.func47 (by kernel_rfl) rfl #[.agg #[.int .i64 a1_0, .int .i64 a1_1]] (by rfl) rfl rfl (by (try simp only [List.map_toArray, List.map_cons, List.map_nil]); first | done | rfl | (simp only [List.length_drop, List.length_take]; rfl)) ?_
  with_reducible refine (ropewayref04_Size.calls k a1_0 a1_1 t314 _ A4.out).mono ?_
  rintro e w22 ⟨rfl, hb⟩
  refine ⟨_, rfl, ?_⟩
  have n0_ := Aside0.mk (bb_ BK311 hb)
  have n1_ := Aside0.mk (bb_ BK312 hb)
  have n2_ := Aside0.mk (below_step bel_ hb)
  clear BK311
  clear BK312
  clear HB
  have BK311 := n0_
  have BK312 := n1_
  have HB := n2_
  clear n0_ n1_ n2_
  (try clear hb)
  (try clear hb2)
  (try clear hk)
  (try clear hi)
  refine hK.out _ _ ⟨(blk_cell BK311.out 0).trans rfl, (blk_cell BK311.out 1).trans rfl, (blk_cell BK312.out 0).trans rfl, (blk_cell BK312.out 1).trans rfl⟩ (fun hHeld => ?_)
  clear hK K
  refine norm_ (a' := ?_) ?_ ?_
  rotate_left
  · show Act.put _ (some 8) _ = _
    simp only [Act.put, List.setIfInBounds_toArray, List.set_cons_zero, List.set_cons_succ, i64_w, i32_w]
    rfl
  refine pure_ (i := 4) (N := some 9) (v := ?_) (a' := ?_) #[T_, T_, T_, T_, T_] rfl rfl (by kernel_rfl) (fun _ _ _ h => h) (Or.inl ⟨by rfl, ?_⟩) ?_ ?_
  rotate_left
  · intro w'
    go_simp
    with_reducible rfl
  rotate_left
  · simp only [Act.put, List.setIfInBounds_toArray, List.set_cons_zero, List.set_cons_succ, i64_w, i32_w]
    rfl
  refine done_ (by kernel_rfl) ?_
  try go_wp2
  have n0_ := Aside0.mk (blk_drew BK311.out)
  have n1_ := Aside0.mk (blk_drew BK312.out)
  have n2_ := Aside0.mk (below_drew1 HB.out)
  clear BK311
  clear BK312
  clear HB
  have BK311 := n0_
  have BK312 := n1_
  have HB := n2_
  clear n0_ n1_ n2_
  refine start_ (n := 6) (S := fun w' => w'.cell? ⟨gb311, 0, none⟩ = some (.int .i64 a0_0) ∧ w'.cell? ⟨gb311, 1, none⟩ = some (.int .i64 a0_1) ∧ w'.cell? ⟨gb312, 0, none⟩ = some (.int .i64 a1_0) ∧ w'.cell? ⟨gb312, 1, none⟩ = some (.int .i64 a1_1)) (ds := []) #[F_, F_, F_, F_, F_, F_] (by kernel_rfl) rfl rfl ⟨(blk_cell BK311.out 0).trans rfl, (blk_cell BK311.out 1).trans rfl, (blk_cell BK312.out 0).trans rfl, (blk_cell BK312.out 1).trans rfl⟩ (fun hHeld => ?_)
  generalize w22.drew = w23 at BK311 BK312 HB hHeld ⊢
  refine take_ (i := 0) (N := some 10) (v := ?_) (a' := ?_) #[T_, F_, F_, F_, F_, F_] rfl rfl (by kernel_rfl) (fun _ _ _ h => h) (Or.inl ⟨by rfl, ?_⟩) hHeld ?_ ?_
  rotate_left
  · rintro w' ⟨s0, s1, s2, s3⟩
    go_simp
    with_reducible rfl
  rotate_left
  · simp only [Act.put, List.setIfInBounds_toArray, List.set_cons_zero, List.set_cons_succ, i64_w, i32_w]
    rfl
  refine take_ (i := 2) (N := some 12) (v := ?_) (a' := ?_) #[T_, F_, T_, F_, F_, F_] rfl rfl (by kernel_rfl) (fun _ _ _ h => h) (Or.inl ⟨by rfl, ?_⟩) hHeld ?_ ?_
  rotate_left
  · rintro w' ⟨s0, s1, s2, s3⟩
    go_simp
    with_reducible rfl
  rotate_left
  · simp only [Act.put, List.setIfInBounds_toArray, List.set_cons_zero, List.set_cons_succ, i64_w, i32_w]
    rfl
  refine one_ (i := 1) (N := some 11) #[T_, T_, T_, F_, F_, F_] rfl rfl (by kernel_rfl) (by decide) (fun K hK => ?_)
  refine goes_ Try.func47 (by kernel_rfl) rfl #[.agg #[.int .i64 a0_0, .int .i64 a0_1]] (by rfl) rfl rfl (by (try simp only [List.map_toArray, List.map_cons, List.map_nil]); first | done | rfl | (simp only [List.length_drop, List.length_take]; rfl)) ?_
  with_reducible refine (ropewayref04_Size.calls k a0_0 a0_1 t317 _ A16.out).mono ?_
  rintro e w24 ⟨rfl, hb⟩
  refine ⟨_, rfl, ?_⟩
  have n0_ := Aside0.mk (bb_ BK311 hb)
  have n1_ := Aside0.mk (bb_ BK312 hb)
  have n2_ := Aside0.mk (below_step bel_ hb)
  clear BK311
  clear BK312
  clear HB
  have BK311 := n0_
  have BK312 := n1_
  have HB := n2_
  clear n0_ n1_ n2_
  (try clear hb)
  (try clear hb2)
  (try clear hk)
  (try clear hi)
  refine hK.out _ _ ⟨(blk_cell BK311.out 0).trans rfl, (blk_cell BK311.out 1).trans rfl, (blk_cell BK312.out 0).trans rfl, (blk_cell BK312.out 1).trans rfl⟩ (fun hHeld => ?_)
  clear hK K
  refine norm_ (a' := ?_) ?_ ?_
  rotate_left
  · show Act.put _ (some 11) _ = _
    simp only [Act.put, List.setIfInBounds_toArray, List.set_cons_zero, List.set_cons_succ, i64_w, i32_w]
    rfl
  refine one_ (i := 3) (N := some 13) #[T_, T_, T_, T_, F_, F_] rfl rfl (by kernel_rfl) (by decide) (fun K hK => ?_)
  refine goes_ Try.func47 (by kernel_rfl) rfl #[.agg #[.int .i64 a1_0, .int .i64 a1_1]] (by rfl) rfl rfl (by (try simp only [List.map_toArray, List.map_cons, List.map_nil]); first | done | rfl | (simp only [List.length_drop, List.length_take]; rfl)) ?_
  with_reducible refine (ropewayref04_Size.calls k a1_0 a1_1 t318 _ A17.out).mono ?_
  rintro e w25 ⟨rfl, hb⟩
  refine ⟨_, rfl, ?_⟩
  have n0_ := Aside0.mk (bb_ BK311 hb)
  have n1_ := Aside0.mk (bb_ BK312 hb)
  have n2_ := Aside0.mk (below_step bel_ hb)
  clear BK311
  clear BK312
  clear HB
  have BK311 := n0_
  have BK312 := n1_
  have HB := n2_
  clear n0_ n1_ n2_
  (try clear hb)
  (try clear hb2)
  (try clear hk)
  (try clear hi)
  refine hK.out _ _ ⟨(blk_cell BK311.out 0).trans rfl, (blk_cell BK311.out 1).trans rfl, (blk_cell BK312.out 0).trans rfl, (blk_cell BK312.out 1).trans rfl⟩ (fun hHeld => ?_)
  clear hK K
  refine norm_ (a' := ?_) ?_ ?_
  rotate_left
  · show Act.put _ (some 13) _ = _
    simp only [Act.put, List.setIfInBounds_toArray, List.set_cons_zero, List.set_cons_succ, i64_w, i32_w]
    rfl
  refine pure_ (i := 4) (N := some 14) (v := ?_) (a' := ?_) #[T_, T_, T_, T_, T_, F_] rfl rfl (by kernel_rfl) (fun _ _ _ h => h) (Or.inl ⟨by rfl, ?_⟩) ?_ ?_
  rotate_left
  · intro w'
    go_simp
    with_reducible rfl
  rotate_left
  · simp only [Act.put, List.setIfInBounds_toArray, List.set_cons_zero, List.set_cons_succ, i64_w, i32_w]
    rfl
  refine pure_ (i := 5) (N := some 4) (v := ?_) (a' := ?_) #[T_, T_, T_, T_, T_, T_] rfl rfl (by kernel_rfl) (fun _ _ _ h => h) (Or.inl ⟨by rfl, ?_⟩) ?_ ?_
  rotate_left
  · intro w'
    go_simp
    with_reducible rfl
  rotate_left
  · simp only [Act.put, List.setIfInBounds_toArray, List.set_cons_zero, List.set_cons_succ, i64_w, i32_w]
    rfl
  refine done_ (by kernel_rfl) ?_
  try go_wp2
  go_ret
  exact ⟨by first | rfl | (simp [errW_none, errW_some] <;> rfl) | (simp [*, errW_none, errW_some] <;> rfl), bel_⟩
/-! ### ropewayref10_Changes: function 38 -/
mutual
def ropewayref10_Changes.l0 : Nat → List (S41) → List (S25) → Option ((List (S25)))
  | 0, _, _ => none
  | k + 1, x0, x3 => ropewayref10_Changes.l1 k x0 x3 false x0 (x0.length : Int) 0 0 0
def ropewayref10_Changes.l1 : Nat → List (S41) → List (S25) → Bool → List (S41) → Int → Int → Int → Int → Option ((List (S25)))
  | 0, _, _, _, _, _, _, _, _ => none
  | k + 1, x0, x3, x5, x13, x14, x15, x323000, x323001 => if x15 < x14 then (if 0 ≤ x15 then (if x15 < (x13.length : Int) then (ropewayref10_Changes.l2 k x0 x3 x5 false x13 x14 x15 x3 (x3.length : Int) 0 x323000 x323001 ((rd_T41 x13 x15).f0) ((rd_T41 x13 x15).f1.f0) ((rd_T41 x13 x15).f1.f1)) else (none)) else (none)) else (if x5 = true then (if x3.length < 8796093022208 then (ropewayref10_Changes.l0 k x0 (x3 ++ [(⟨x323000, x323001⟩ : S25)])) else (none)) else (some x3))
def ropewayref10_Changes.l2 : Nat → List (S41) → List (S25) → Bool → Bool → List (S41) → Int → Int → List (S25) → Int → Int → Int → Int → Int → Int → Int → Option ((List (S25)))
  | 0, _, _, _, _, _, _, _, _, _, _, _, _, _, _, _ => none
  | k + 1, x0, x3, x5, x8, x13, x14, x15, x19, x20, x21, x323000, x323001, x328000, x328001, x328002 => if x21 < x20 then (if 0 ≤ x21 then (if x21 < (x19.length : Int) then (if x8 = true then (ropewayref10_Changes.l2 k x0 x3 x5 true x13 x14 x15 x19 x20 (wrap64 (x21 + 1)) x323000 x323001 x328000 x328001 x328002) else (ropewayref10_Changes.l2 k x0 x3 x5 (((rd_T25 x19 x21).f0) == x328001 && (((rd_T25 x19 x21).f1) == x328002)) x13 x14 x15 x19 x20 (wrap64 (x21 + 1)) x323000 x323001 x328000 x328001 x328002)) else (none)) else (none)) else (if x8 = true then (ropewayref10_Changes.l1 k x0 x3 x5 x13 x14 (wrap64 (x15 + 1)) x323000 x323001) else (if x5 = true then ((ropewayref05_Less.f k x328001 x328002 x323000 x323001).bind fun t330 => (if t330 = true then (ropewayref10_Changes.l1 k x0 x3 true x13 x14 (wrap64 (x15 + 1)) x328001 x328002) else (ropewayref10_Changes.l1 k x0 x3 x5 x13 x14 (wrap64 (x15 + 1)) x323000 x323001))) else (ropewayref10_Changes.l1 k x0 x3 true x13 x14 (wrap64 (x15 + 1)) x328001 x328002)))
end
def ropewayref10_Changes.f (k : Nat) (l0 : List (S41)) : Option ((List (S25))) := ropewayref10_Changes.l0 k l0 (([] : List (S25)))
theorem ropewayref10_Changes.mono_l : ∀ k, (∀ y0 y1, LeO (ropewayref10_Changes.l0 k y0 y1) (ropewayref10_Changes.l0 (k + 1) y0 y1)) ∧ (∀ y0 y1 y2 y3 y4 y5 y6 y7, LeO (ropewayref10_Changes.l1 k y0 y1 y2 y3 y4 y5 y6 y7) (ropewayref10_Changes.l1 (k + 1) y0 y1 y2 y3 y4 y5 y6 y7)) ∧ (∀ y0 y1 y2 y3 y4 y5 y6 y7 y8 y9 y10 y11 y12 y13 y14, LeO (ropewayref10_Changes.l2 k y0 y1 y2 y3 y4 y5 y6 y7 y8 y9 y10 y11 y12 y13 y14) (ropewayref10_Changes.l2 (k + 1) y0 y1 y2 y3 y4 y5 y6 y7 y8 y9 y10 y11 y12 y13 y14))
  | 0 => ⟨fun _ _ r h => by simp [ropewayref10_Changes.l0] at h, fun _ _ _ _ _ _ _ _ r h => by simp [ropewayref10_Changes.l1] at h, fun _ _ _ _ _ _ _ _ _ _ _ _ _ _ _ r h => by simp [ropewayref10_Changes.l2] at h⟩
  | k + 1 => by
    obtain ⟨ih0, ih1, ih2⟩ := ropewayref10_Changes.mono_l k
    refine ⟨?_, ?_, ?_⟩
    · intro y0 y1
      unfold ropewayref10_Changes.l0
      repeat' first
      | (with_reducible exact ih0 _ _)
      | (with_reducible exact ih1 _ _ _ _ _ _ _ _)
      | (with_reducible exact ih2 _ _ _ _ _ _ _ _ _ _ _ _ _ _ _)
      | (with_reducible exact ropewayref05_Less.mono _ _ _ _ _)
      | (with_reducible exact LeO.refl _)
      | (with_reducible exact LeO.none _)
      | (with_reducible refine LeO.ite ?_ ?_)
      | (with_reducible refine LeO.bind ?_ (fun _ => ?_))
      | exact ih0 _ _
      | exact ih1 _ _ _ _ _ _ _ _
      | exact ih2 _ _ _ _ _ _ _ _ _ _ _ _ _ _ _
      | exact ropewayref05_Less.mono _ _ _ _ _
      | exact LeO.none _
      | refine LeO.ite ?_ ?_
      | refine LeO.bind ?_ (fun _ => ?_)
    · intro y0 y1 y2 y3 y4 y5 y6 y7
      unfold ropewayref10_Changes.l1
      repeat' first
      | (with_reducible exact ih0 _ _)
      | (with_reducible exact ih1 _ _ _ _ _ _ _ _)
      | (with_reducible exact ih2 _ _ _ _ _ _ _ _ _ _ _ _ _ _ _)
      | (with_reducible exact ropewayref05_Less.mono _ _ _ _ _)
      | (with_reducible exact LeO.refl _)
      | (with_reducible exact LeO.none _)
      | (with_reducible refine LeO.ite ?_ ?_)
      | (with_reducible refine LeO.bind ?_ (fun _ => ?_))
      | exact ih0 _ _
      | exact ih1 _ _ _ _ _ _ _ _
      | exact ih2 _ _ _ _ _ _ _ _ _ _ _ _ _ _ _
      | exact ropewayref05_Less.mono _ _ _ _ _
      | exact LeO.none _
      | refine LeO.ite ?_ ?_
      | refine LeO.bind ?_ (fun _ => ?_)
    · intro y0 y1 y2 y3 y4 y5 y6 y7 y8 y9 y10 y11 y12 y13 y14
      unfold ropewayref10_Changes.l2
      repeat' first
      | (with_reducible exact ih0 _ _)
      | (with_reducible exact ih1 _ _ _ _ _ _ _ _)
      | (with_reducible exact ih2 _ _ _ _ _ _ _ _ _ _ _ _ _ _ _)
      | (with_reducible exact ropewayref05_Less.mono _ _ _ _ _)
      | (with_reducible exact LeO.refl _)
      | (with_reducible exact LeO.none _)
      | (with_reducible refine LeO.ite ?_ ?_)
      | (with_reducible refine LeO.bind ?_ (fun _ => ?_))
      | exact ih0 _ _
      | exact ih1 _ _ _ _ _ _ _ _
      | exact ih2 _ _ _ _ _ _ _ _ _ _ _ _ _ _ _
      | exact ropewayref05_Less.mono _ _ _ _ _
      | exact LeO.none _
      | refine LeO.ite ?_ ?_
      | refine LeO.bind ?_ (fun _ => ?_)
theorem ropewayref10_Changes.mono : ∀ a0 k, LeO (ropewayref10_Changes.f k a0) (ropewayref10_Changes.f (k + 1) a0) := by
  intro a0 k
  obtain ⟨ih0, ih1, ih2⟩ := ropewayref10_Changes.mono_l k
  unfold ropewayref10_Changes.f
  repeat' first
      | (with_reducible exact ih0 _ _)
      | (with_reducible exact ih1 _ _ _ _ _ _ _ _)
      | (with_reducible exact ih2 _ _ _ _ _ _ _ _ _ _ _ _ _ _ _)
      | (with_reducible exact ropewayref05_Less.mono _ _ _ _ _)
      | (with_reducible exact LeO.refl _)
      | (with_reducible exact LeO.none _)
      | (with_reducible refine LeO.ite ?_ ?_)
      | (with_reducible refine LeO.bind ?_ (fun _ => ?_))
      | exact ih0 _ _
      | exact ih1 _ _ _ _ _ _ _ _
      | exact ih2 _ _ _ _ _ _ _ _ _ _ _ _ _ _ _
      | exact ropewayref05_Less.mono _ _ _ _ _
      | exact LeO.none _
      | refine LeO.ite ?_ ?_
      | refine LeO.bind ?_ (fun _ => ?_)
set_option maxHeartbeats 8000000 in
set_option maxRecDepth 100000 in
theorem ropewayref10_Changes.calls (k : Nat) (A0 : Option Addr) (c0 : Nat) (l0 : List (S41)) (r : List (S25)) (w : World) (hr0 : Kd.C k41 w A0 l0.length l0) (hc0 : l0.length ≤ c0) (h : ropewayref10_Changes.f k l0 = some r) :
    Calls Try.prog 38 #[.slice A0 l0.length c0] w fun e w' => ∃ v0_ : Value, e = .returned (v0_) ∧ Kd.R k25 25 w' w.heap.size (fun _ => True) v0_ r ∧ Below w.heap.size w w' := by
  have hu25 := Try.underlying25
  have hu41 := Try.underlying41
  have HR0 := Aside0.mk hr0
  have HC0 := Aside0.mk hc0
  clear hr0 hc0
  have HB := Aside0.mk (Below.refl w.heap.size w)
  have H : (ropewayref10_Changes.l0 k l0 (([] : List (S25)))) = some r := h
  clear h
  obtain ⟨y319, hy319⟩ : ∃ y_ : List (S25), y_ = (([] : List (S25))) := ⟨_, rfl⟩
  replace H : (ropewayref10_Changes.l0 k l0 y319) = some r := by first | (rw [hy319]; with_reducible exact H) | (have H2_ := (Option.bind_some _ _).symm.trans H; rw [hy319]; with_reducible exact H2_) | (have H2_ := (Option.bind_some _ _).symm.trans H; with_reducible exact H2_) | with_reducible exact H | (rw [hy319]; exact H) | exact H
  have Ny319 := Aside0.mk hy319
  clear hy319
  have H' := Aside0.mk H
  clear H
  go_enter Try.func38, Try.ntmps38
  go_wp2_with (first | ((with_reducible refine gate_dst (N := 11) rfl ?_); refine Kd.R_lit k25 _ 25 ?hg (N := 11) ?hd (xs := ([] : List (S25))) (inner := []) (ok := fun _ => True) (okp := fun _ => True) ?hr ?hp (fun _ hk => hk) trivial (Below.refl _ _) (Nat.le_refl _) (by simp) ?_; (case hd => rfl); (case hg => rfl); (case hr => first | (go_simp; done) | (go_simp; rfl)); (case hp => exact (Reps.none _ _)); intro v320 w2 ho3 hb hg_ hnew_; clear hg_ hnew_; (first | rw [← Ny319.out] at ho3 | (simp only [Int.reduceToNat] at ho3; rw [← Ny319.out] at ho3)); have n0_ := Aside0.mk (Kd.R_lower ho3 (below_size bel_)); have n1_ := Aside0.mk (below_step bel_ hb); clear HB; have HO321 := n0_; have HB := n1_; clear n0_ n1_; clear hb ho3))
  go_loopg [3] k (fun kq v3 w' => ∃ (x3_1 : List (S25)), Aside0 (ropewayref10_Changes.l0 kq l0 x3_1 = some r) ∧ Aside0 (kq ≤ k) ∧ Aside0 (Kd.R k25 25 w' w.heap.size (fun _ => True) v3 x3_1) ∧ Aside0 (Below w.heap.size w w'))
  case atStart => exact ⟨(y319), H', ⟨Nat.le_refl _⟩, ⟨by (with_reducible repeat (first | apply Kd.R_alloc | apply Kd.R_drewN | apply Kd.R_drew)); exact HO321.out⟩, ⟨bel_⟩⟩
  case round =>
   clear H'
   try clear p2
   try clear c3
   obtain ⟨x3_1, HA, HK1, HO_3, HB⟩ := hrel
   cases gk with
   | zero => exact absurd HA.out (by simp [ropewayref10_Changes.l0])
   | succ k1 =>
    have H := HA.out
    clear HA
    simp only [ropewayref10_Changes.l0] at H
    have H' := Aside0.mk H
    clear H
    go_wp2_with (first | ((with_reducible refine gate_dst (N := 4) rfl ?_); refine box_event ?hg (N := 4) ?hd (cs := #[.int .i64 0, .int .i64 0]) (t := 25) ?hr ?_; (case hd => rfl); (case hg => rfl); (case hr => first | (go_simp; done) | (go_simp; rfl)); intro gb322 hg w4 hbox hb; have n0_ := Aside0.mk (Kd.R_below (Kd.R_elderB (rl_ HO_3) gb322 (Nat.le_of_eq hg.symm)) hb); have n1_ := Aside0.mk (below_step bel_ hb); have n2_ := Aside0.mk (hbox); have n3_ := Aside0.mk (bs_ hg); have n4_ := Aside0.mk (bs_ hg); clear HO_3; clear HB; have HO_3 := n0_; have HB := n1_; have BK322 := n2_; have GW322 := n3_; have GE322 := n4_; clear n0_ n1_ n2_ n3_ n4_; clear hb hbox hg; have hcz5_0 : w4.cell? ⟨gb322, 0, none⟩ = some (.int .i64 0) := (blk_cell BK322.out 0).trans rfl; have hcz5_1 : w4.cell? ⟨gb322, 1, none⟩ = some (.int .i64 0) := (blk_cell BK322.out 1).trans rfl; have hfz5_0 := blk_frozen BK322.out 0; have hfz5_1 := blk_frozen BK322.out 1))
    go_loopg [5, 15] k1 (fun kq v5 v15 w' => ∃ (x5_2 : Bool) (x15_2 : Int) (x323000_2 : Int) (x323001_2 : Int), v5 = .bool x5_2 ∧ v15 = .int .i64 x15_2 ∧ Aside0 (ropewayref10_Changes.l1 kq l0 x3_1 x5_2 l0 (l0.length : Int) x15_2 x323000_2 x323001_2 = some r) ∧ Aside0 (kq ≤ k1) ∧ Aside0 (Kd.R k25 25 w' w.heap.size (fun k_ => k_ ≠ gb322) u3 x3_1) ∧ Aside0 (w'.heap[gb322]? = some (.cells #[.int .i64 x323000_2, .int .i64 x323001_2] 25 (0, 0))) ∧ Aside0 (Below w.heap.size w w'))
    case atStart => exact ⟨(false), (0), (0), (0), (by first | rfl | (simp; done) | (simp [*]; done) | (simp; grind)), (by first | rfl | (simp; done) | (simp [*]; done) | (simp; grind)), H', ⟨Nat.le_refl _⟩, ⟨by (with_reducible repeat (first | apply Kd.R_alloc | apply Kd.R_drewN | apply Kd.R_drew)); exact Kd.R_mono (Kd.R_far (p := ⟨gb322, 1, none⟩) (Kd.R_far (p := ⟨gb322, 0, none⟩) (Kd.R_mono HO_3.out (fun k_ hk => (⟨hk, hk.2⟩ : _ ∧ k_ ≠ gb322))) (fun _ hk => hk.2) (.int .i64 0)) (fun _ hk => hk.2) (.int .i64 0)) (fun _ hk => hk.1.2)⟩, ⟨by (with_reducible repeat (first | refine blk_drewN ?_ _ | refine blk_drew ?_ | refine blk_alloc ?_ _)); refine blk_put (cs := #[.int .i64 0, .int .i64 0]) ?_ 1 _ rfl; (with_reducible repeat (first | refine blk_drewN ?_ _ | refine blk_drew ?_ | refine blk_alloc ?_ _)); refine blk_put (cs := #[.int .i64 0, .int .i64 0]) ?_ 0 _ rfl; (with_reducible repeat (first | refine blk_drewN ?_ _ | refine blk_drew ?_ | refine blk_alloc ?_ _)); exact BK322.out⟩, ⟨bel_⟩⟩
    case round =>
     clear H'
     try clear p2
     try clear c3
     try clear hcz5_0
     try clear hcz5_1
     try clear hfz5_0
     try clear hfz5_1
     try clear p2
     obtain ⟨x5_2, x15_2, x323000_2, x323001_2, rfl, rfl, HA, HK2, HO_3, BK322, HB⟩ := hrel
     cases gk with
     | zero => exact absurd HA.out (by simp [ropewayref10_Changes.l1])
     | succ k2 =>
      have H := HA.out
      clear HA
      simp only [ropewayref10_Changes.l1] at H
      by_cases c6 : x15_2 < (l0.length : Int)
      rotate_left
      · rw [if_neg c6] at H
        have c6b0 : decide (x15_2 < (l0.length : Int)) = false := decide_eq_false c6
        clear c6
        by_cases c44 : x5_2 = true
        rotate_left
        · replace c44 := Bool.eq_false_iff.mpr c44
          subst c44
          have H1 : (some x3_1) = some r := by rw [if_neg (show ¬ (false = true) by decide)] at H; exact H
          clear H
          have H := H1
          clear H1
          obtain rfl := Option.some.inj H
          go_wp2
          go_ret
          exact ⟨_, by first | rfl | (simp [errW_none, errW_some] <;> rfl) | (simp [*, errW_none, errW_some] <;> rfl), by (with_reducible repeat (first | apply Kd.R_alloc | apply Kd.R_drewN | apply Kd.R_drew)); exact Kd.R_mono HO_3.out (fun _ hk => trivial), bel_⟩
        subst c44
        have H1 : (if x3_1.length < 8796093022208 then (ropewayref10_Changes.l0 k2 l0 (x3_1 ++ [(⟨x323000_2, x323001_2⟩ : S25)])) else (none)) = some r := by rw [if_pos rfl] at H; exact H
        clear H
        have H := H1
        clear H1
        by_cases c45 : x3_1.length < 8796093022208
        rotate_left
        · rw [if_neg c45] at H
          exact absurd H (by simp)
        rw [if_pos c45] at H
        have LMc45 := Aside0.mk c45
        clear c45
        obtain ⟨y323, hy323⟩ : ∃ y_ : List (S25), y_ = (x3_1 ++ [(⟨x323000_2, x323001_2⟩ : S25)]) := ⟨_, rfl⟩
        replace H : (ropewayref10_Changes.l0 k2 l0 y323) = some r := by first | (rw [hy323]; with_reducible exact H) | (have H2_ := (Option.bind_some _ _).symm.trans H; rw [hy323]; with_reducible exact H2_) | (have H2_ := (Option.bind_some _ _).symm.trans H; with_reducible exact H2_) | with_reducible exact H | (rw [hy323]; exact H) | exact H
        have Ny323 := Aside0.mk hy323
        clear hy323
        have H' := Aside0.mk H
        clear H
        have hcz46_0 : wr.cell? ⟨gb322, 0, none⟩ = some (.int .i64 x323000_2) := (blk_cell BK322.out 0).trans rfl
        have hcz46_1 : wr.cell? ⟨gb322, 1, none⟩ = some (.int .i64 x323001_2) := (blk_cell BK322.out 1).trans rfl
        have hfz46_0 := blk_frozen BK322.out 0
        have hfz46_1 := blk_frozen BK322.out 1
        go_wp2_with (first | ((with_reducible refine gate_builtin (b := .append) (xs := #[.tmp 51, .tmp 53]) rfl ?_); at_builtin; refine Kd.R_append k25 (w0 := w) w.heap.size rfl (.tmp 51) (.tmp 53) 30 25 (.agg #[(.int .i64 0), (.int .i64 0)]) 16 rfl Try.underlying30 info25 rfl (by decide) (by omega) u3 x3_1 (⟨x323000_2, x323001_2⟩ : S25) [.int .i64 x323000_2, .int .i64 x323001_2] (fun k_ => k_ ≠ gb322) (fun _ => False) rfl rfl ?aP (fun _ hk => hk.elim) ?aF ?aO ?aB ?aS ?aL ?_; (case aP => exact k25_mkM _ _ _ (⟨x323000_2, x323001_2⟩ : S25)); (case aB => exact bel_); (case aF => exact (fun k_ hk => Kd.freshB (g := gb322) (o := .cells #[.int .i64 x323000_2, .int .i64 x323001_2] 25 (0, 0)) blk_ k_ hk)); (case aO => exact (rl_ HO_3)); (case aS => exact (below_size bel_)); (case aL => have := LMc45.out; omega); intro v324 w47 ho hb hg hat; rw [← Ny323.out] at ho; have n0_ := Aside0.mk (blk_grown (g := gb322) (o := .cells #[.int .i64 x323000_2, .int .i64 x323001_2] 25 (0, 0)) blk_ hg (Kd.R_away HO_3.out (fun _ hk => hk))); have n1_ := Aside0.mk (hb); have n2_ := Aside0.mk (ho); clear BK322; clear HB; clear HO_3; have BK322 := n0_; have HB := n1_; have HO325 := n2_; clear n0_ n1_ n2_; clear ho hb hg hat))
        go_roundg k2
        case measure => have := HK1.out; have := HK2.out; omega
        case rel => exact ⟨(y323), H', ⟨by have := HK1.out; have := HK2.out; omega⟩, ⟨by (with_reducible repeat (first | apply Kd.R_alloc | apply Kd.R_drewN | apply Kd.R_drew)); exact Kd.R_mono HO325.out (fun _ hk => trivial)⟩, ⟨bel_⟩⟩
      rw [if_pos c6] at H
      have c6b0 : decide (x15_2 < (l0.length : Int)) = true := decide_eq_true c6
      clear c6
      by_cases c7 : 0 ≤ x15_2
      rotate_left
      · rw [if_neg c7] at H
        exact absurd H (by simp)
      rw [if_pos c7] at H
      have c7b0 : decide (0 ≤ x15_2) = true := decide_eq_true c7
      clear c7
      by_cases c8 : x15_2 < (l0.length : Int)
      rotate_left
      · rw [if_neg c8] at H
        exact absurd H (by simp)
      rw [if_pos c8] at H
      have c8b0 : decide (x15_2 < (l0.length : Int)) = true := decide_eq_true c8
      clear c8
      have H' := Aside0.mk H
      clear H
      have p326 : 0 ≤ (x15_2 : Int) := of_decide_eq_true (by first | (with_reducible assumption) | assumption)
      have q326 : x15_2 < (l0.length : Int) := of_decide_eq_true (by first | (with_reducible assumption) | assumption)
      obtain ⟨ad326, e326, hx326_0, hx326_1, hx326_2⟩ := at_T41 HR0.out x15_2 p326 q326
      cases e326
      replace hx326_0 := (HB.out.cell (World.block_lt_of_cell? w _ hx326_0)).trans hx326_0
      replace hx326_1 := (HB.out.cell (World.block_lt_of_cell? w _ hx326_1)).trans hx326_1
      replace hx326_2 := (HB.out.cell (World.block_lt_of_cell? w _ hx326_2)).trans hx326_2
      replace p326 := eq_true p326
      replace q326 := eq_true q326
      go_wp2_with (first | ((with_reducible refine gate_dst (N := 7) rfl ?_); refine box_event ?hg (N := 7) ?hd (cs := #[.int .i64 0, .int .i64 0, .int .i64 0]) (t := 41) ?hr ?_; (case hd => rfl); (case hg => rfl); (case hr => first | (go_simp; done) | (go_simp; rfl)); intro gb327 hg w9 hbox hb; have n0_ := Aside0.mk (Kd.R_below (rl_ HO_3) hb); have n1_ := Aside0.mk (bb_ BK322 hb); have n2_ := Aside0.mk (below_step bel_ hb); have n3_ := Aside0.mk (hbox); have n4_ := Aside0.mk (bs_ hg); have n5_ := Aside0.mk (bs_ hg); have n6_ := Aside0.mk (nl_ BK322 hg); have n7_ := Aside0.mk (ng_ BK322 hg); clear HO_3; clear BK322; clear HB; have HO_3 := n0_; have BK322 := n1_; have HB := n2_; have BK327 := n3_; have GW327 := n4_; have GE327 := n5_; have NB322_327 := n6_; have NB327_322 := n7_; clear n0_ n1_ n2_ n3_ n4_ n5_ n6_ n7_; clear hb hbox hg; have hnb10 := NB327_322.out; have hnc10 := NB322_327.out; have hcz11_0 : w9.cell? ⟨gb327, 0, none⟩ = some (.int .i64 0) := (blk_cell BK327.out 0).trans rfl; have hcz11_1 : w9.cell? ⟨gb327, 1, none⟩ = some (.int .i64 0) := (blk_cell BK327.out 1).trans rfl; have hcz11_2 : w9.cell? ⟨gb327, 2, none⟩ = some (.int .i64 0) := (blk_cell BK327.out 2).trans rfl; have hfz11_0 := blk_frozen BK327.out 0; have hfz11_1 := blk_frozen BK327.out 1; have hfz11_2 := blk_frozen BK327.out 2; obtain ⟨Ao12, co12, eo12⟩ := Kd.R_slice HO_3.out; subst eo12))
      go_loopg [8, 21] k2 (fun kq v8 v21 w' => ∃ (x8_3 : Bool) (x21_3 : Int), v8 = .bool x8_3 ∧ v21 = .int .i64 x21_3 ∧ Aside0 (ropewayref10_Changes.l2 kq l0 x3_1 x5_2 x8_3 l0 (l0.length : Int) x15_2 x3_1 (x3_1.length : Int) x21_3 x323000_2 x323001_2 ((rd_T41 l0 x15_2).f0) ((rd_T41 l0 x15_2).f1.f0) ((rd_T41 l0 x15_2).f1.f1) = some r) ∧ Aside0 (kq ≤ k2) ∧ Aside0 (Kd.R k25 25 w' w.heap.size (fun k_ => k_ ≠ gb322) (.slice Ao12 x3_1.length co12) x3_1) ∧ Aside0 (Kd.R k25 25 w' w.heap.size (fun k_ => k_ ≠ gb322) (.slice Ao12 x3_1.length co12) x3_1) ∧ Aside0 (w'.heap[gb322]? = some (.cells #[.int .i64 x323000_2, .int .i64 x323001_2] 25 (0, 0))) ∧ Aside0 (w'.heap[gb327]? = some (.cells #[.int .i64 ((rd_T41 l0 x15_2).f0), .int .i64 ((rd_T41 l0 x15_2).f1.f0), .int .i64 ((rd_T41 l0 x15_2).f1.f1)] 41 (0, 0))) ∧ Aside0 (Below w.heap.size w w'))
      case atStart => exact ⟨(false), (0), (by first | rfl | (simp; done) | (simp [*]; done) | (simp; grind)), (by first | rfl | (simp; done) | (simp [*]; done) | (simp; grind)), H', ⟨Nat.le_refl _⟩, ⟨by (with_reducible repeat (first | apply Kd.R_alloc | apply Kd.R_drewN | apply Kd.R_drew)); exact Kd.R_mono (Kd.R_far (p := ⟨gb327, 2, none⟩) (Kd.R_far (p := ⟨gb327, 1, none⟩) (Kd.R_far (p := ⟨gb327, 0, none⟩) (Kd.R_types HO_3.out BK327.out (by decide)) (fun _ hk => hk.2) (.int .i64 ((rd_T41 l0 x15_2).f0))) (fun _ hk => hk.2) (.int .i64 ((rd_T41 l0 x15_2).f1.f0))) (fun _ hk => hk.2) (.int .i64 ((rd_T41 l0 x15_2).f1.f1))) (fun _ hk => hk.1)⟩, ⟨by (with_reducible repeat (first | apply Kd.R_alloc | apply Kd.R_drewN | apply Kd.R_drew)); exact Kd.R_mono (Kd.R_far (p := ⟨gb327, 2, none⟩) (Kd.R_far (p := ⟨gb327, 1, none⟩) (Kd.R_far (p := ⟨gb327, 0, none⟩) (Kd.R_types HO_3.out BK327.out (by decide)) (fun _ hk => hk.2) (.int .i64 ((rd_T41 l0 x15_2).f0))) (fun _ hk => hk.2) (.int .i64 ((rd_T41 l0 x15_2).f1.f0))) (fun _ hk => hk.2) (.int .i64 ((rd_T41 l0 x15_2).f1.f1))) (fun _ hk => hk.1)⟩, ⟨blf_⟩, ⟨by (with_reducible repeat (first | refine blk_drewN ?_ _ | refine blk_drew ?_ | refine blk_alloc ?_ _)); refine blk_put (cs := #[.int .i64 ((rd_T41 l0 x15_2).f0), .int .i64 ((rd_T41 l0 x15_2).f1.f0), .int .i64 0]) ?_ 2 _ rfl; (with_reducible repeat (first | refine blk_drewN ?_ _ | refine blk_drew ?_ | refine blk_alloc ?_ _)); refine blk_put (cs := #[.int .i64 ((rd_T41 l0 x15_2).f0), .int .i64 0, .int .i64 0]) ?_ 1 _ rfl; (with_reducible repeat (first | refine blk_drewN ?_ _ | refine blk_drew ?_ | refine blk_alloc ?_ _)); refine blk_put (cs := #[.int .i64 0, .int .i64 0, .int .i64 0]) ?_ 0 _ rfl; (with_reducible repeat (first | refine blk_drewN ?_ _ | refine blk_drew ?_ | refine blk_alloc ?_ _)); exact BK327.out⟩, ⟨bel_⟩⟩
      case round =>
       clear H'
       try clear c1
       try clear p2
       try clear c3
       try clear p3
       try clear q3
       try clear hx3
       try clear c6
       try clear c6b0
       try clear c7
       try clear c7b0
       try clear c8
       try clear c8b0
       try clear c10
       try clear hcz11_0
       try clear hcz11_1
       try clear hcz11_2
       try clear hcz5_0
       try clear hcz5_1
       try clear hfz11_0
       try clear hfz11_1
       try clear hfz11_2
       try clear hfz5_0
       try clear hfz5_1
       try clear hx326_0
       try clear hx326_1
       try clear hx326_2
       try clear p2
       try clear p326
       try clear q326
       obtain ⟨x8_3, x21_3, rfl, rfl, HA, HK3, HO_3, HO_19, BK322, BK327, HB⟩ := hrel
       cases gk with
       | zero => exact absurd HA.out (by simp [ropewayref10_Changes.l2])
       | succ k3 =>
        have H := HA.out
        clear HA
        simp only [ropewayref10_Changes.l2] at H
        by_cases c13 : x21_3 < (x3_1.length : Int)
        · rw [if_pos c13] at H
          have c13b0 : decide (x21_3 < (x3_1.length : Int)) = true := decide_eq_true c13
          clear c13
          by_cases c14 : 0 ≤ x21_3
          rotate_left
          · rw [if_neg c14] at H
            exact absurd H (by simp)
          rw [if_pos c14] at H
          have c14b0 : decide (0 ≤ x21_3) = true := decide_eq_true c14
          clear c14
          by_cases c15 : x21_3 < (x3_1.length : Int)
          rotate_left
          · rw [if_neg c15] at H
            exact absurd H (by simp)
          rw [if_pos c15] at H
          have c15b0 : decide (x21_3 < (x3_1.length : Int)) = true := decide_eq_true c15
          clear c15
          by_cases c16 : x8_3 = true
          · subst c16
            have H1 : (ropewayref10_Changes.l2 k3 l0 x3_1 x5_2 true l0 (l0.length : Int) x15_2 x3_1 (x3_1.length : Int) (wrap64 (x21_3 + 1)) x323000_2 x323001_2 ((rd_T41 l0 x15_2).f0) ((rd_T41 l0 x15_2).f1.f0) ((rd_T41 l0 x15_2).f1.f1)) = some r := by rw [if_pos rfl] at H; exact H
            clear H
            have H := H1
            clear H1
            have H' := Aside0.mk H
            clear H
            have p328 : 0 ≤ (x21_3 : Int) := of_decide_eq_true (by first | (with_reducible assumption) | assumption)
            have q328 : x21_3 < (x3_1.length : Int) := of_decide_eq_true (by first | (with_reducible assumption) | assumption)
            obtain ⟨ad328, e328, hx328_0, hx328_1⟩ := at_T25 (Kd.R_reads' HO_19.out).2.2 x21_3 p328 q328
            cases e328
            replace p328 := eq_true p328
            replace q328 := eq_true q328
            go_wp2_with (first | ((with_reducible refine gate_dst (N := 10) rfl ?_); refine box_event ?hg (N := 10) ?hd (cs := #[.int .i64 0, .int .i64 0]) (t := 25) ?hr ?_; (case hd => rfl); (case hg => rfl); (case hr => first | (go_simp; done) | (go_simp; rfl)); intro gb329 hg w17 hbox hb; have n0_ := Aside0.mk (Kd.R_below (Kd.R_elderB (rl_ HO_3) gb329 (Nat.le_of_eq hg.symm)) hb); have n1_ := Aside0.mk (Kd.R_below (Kd.R_elderB (rl_ HO_19) gb329 (Nat.le_of_eq hg.symm)) hb); have n2_ := Aside0.mk (bb_ BK322 hb); have n3_ := Aside0.mk (bb_ BK327 hb); have n4_ := Aside0.mk (below_step bel_ hb); have n5_ := Aside0.mk (hbox); have n6_ := Aside0.mk (bs_ hg); have n7_ := Aside0.mk (bs_ hg); have n8_ := Aside0.mk (nl_ BK322 hg); have n9_ := Aside0.mk (ng_ BK322 hg); have n10_ := Aside0.mk (nl_ BK327 hg); have n11_ := Aside0.mk (ng_ BK327 hg); clear HO_3; clear HO_19; clear BK322; clear BK327; clear HB; have HO_3 := n0_; have HO_19 := n1_; have BK322 := n2_; have BK327 := n3_; have HB := n4_; have BK329 := n5_; have GW329 := n6_; have GE329 := n7_; have NB322_329 := n8_; have NB329_322 := n9_; have NB327_329 := n10_; have NB329_327 := n11_; clear n0_ n1_ n2_ n3_ n4_ n5_ n6_ n7_ n8_ n9_ n10_ n11_; clear hb hbox hg; have hnb18 := NB329_322.out; have hnc18 := NB322_329.out; have hnb19 := NB329_327.out; have hnc19 := NB327_329.out; have hcz20_0 : w17.cell? ⟨gb329, 0, none⟩ = some (.int .i64 0) := (blk_cell BK329.out 0).trans rfl; have hcz20_1 : w17.cell? ⟨gb329, 1, none⟩ = some (.int .i64 0) := (blk_cell BK329.out 1).trans rfl; have hfz20_0 := blk_frozen BK329.out 0; have hfz20_1 := blk_frozen BK329.out 1))
            go_roundg k3
            case measure => have := HK1.out; have := HK2.out; have := HK3.out; omega
            case rel => exact ⟨(true), (wrap64 (x21_3 + 1)), (by first | rfl | (simp; done) | (simp [*]; done) | (simp; grind)), (by first | rfl | (simp; done) | (simp [*]; done) | (simp; grind)), H', ⟨by have := HK1.out; have := HK2.out; have := HK3.out; omega⟩, ⟨by (with_reducible repeat (first | apply Kd.R_alloc | apply Kd.R_drewN | apply Kd.R_drew)); exact Kd.R_mono (Kd.R_far (p := ⟨gb329, 1, none⟩) (Kd.R_far (p := ⟨gb329, 0, none⟩) (Kd.R_mono HO_3.out (fun k_ hk => (⟨hk, hk.2⟩ : _ ∧ k_ ≠ gb329))) (fun _ hk => hk.2) (.int .i64 ((rd_T25 x3_1 x21_3).f0))) (fun _ hk => hk.2) (.int .i64 ((rd_T25 x3_1 x21_3).f1))) (fun _ hk => hk.1.1)⟩, ⟨by (with_reducible repeat (first | apply Kd.R_alloc | apply Kd.R_drewN | apply Kd.R_drew)); exact Kd.R_mono (Kd.R_far (p := ⟨gb329, 1, none⟩) (Kd.R_far (p := ⟨gb329, 0, none⟩) (Kd.R_mono HO_19.out (fun k_ hk => (⟨hk, hk.2⟩ : _ ∧ k_ ≠ gb329))) (fun _ hk => hk.2) (.int .i64 ((rd_T25 x3_1 x21_3).f0))) (fun _ hk => hk.2) (.int .i64 ((rd_T25 x3_1 x21_3).f1))) (fun _ hk => hk.1.1)⟩, ⟨blf_⟩, ⟨blf_⟩, ⟨bel_⟩⟩
          replace c16 := Bool.eq_false_iff.mpr c16
          subst c16
          have H1 : (ropewayref10_Changes.l2 k3 l0 x3_1 x5_2 (((rd_T25 x3_1 x21_3).f0) == ((rd_T41 l0 x15_2).f1.f0) && (((rd_T25 x3_1 x21_3).f1) == ((rd_T41 l0 x15_2).f1.f1))) l0 (l0.length : Int) x15_2 x3_1 (x3_1.length : Int) (wrap64 (x21_3 + 1)) x323000_2 x323001_2 ((rd_T41 l0 x15_2).f0) ((rd_T41 l0 x15_2).f1.f0) ((rd_T41 l0 x15_2).f1.f1)) = some r := by rw [if_neg (show ¬ (false = true) by decide)] at H; exact H
          clear H
          have H := H1
          clear H1
          have H' := Aside0.mk H
          clear H
          have p328 : 0 ≤ (x21_3 : Int) := of_decide_eq_true (by first | (with_reducible assumption) | assumption)
          have q328 : x21_3 < (x3_1.length : Int) := of_decide_eq_true (by first | (with_reducible assumption) | assumption)
          obtain ⟨ad328, e328, hx328_0, hx328_1⟩ := at_T25 (Kd.R_reads' HO_19.out).2.2 x21_3 p328 q328
          cases e328
          replace p328 := eq_true p328
          replace q328 := eq_true q328
          go_wp2_with (first | ((with_reducible refine gate_dst (N := 10) rfl ?_); refine box_event ?hg (N := 10) ?hd (cs := #[.int .i64 0, .int .i64 0]) (t := 25) ?hr ?_; (case hd => rfl); (case hg => rfl); (case hr => first | (go_simp; done) | (go_simp; rfl)); intro gb329 hg w21 hbox hb; have n0_ := Aside0.mk (Kd.R_below (Kd.R_elderB (rl_ HO_3) gb329 (Nat.le_of_eq hg.symm)) hb); have n1_ := Aside0.mk (Kd.R_below (Kd.R_elderB (rl_ HO_19) gb329 (Nat.le_of_eq hg.symm)) hb); have n2_ := Aside0.mk (bb_ BK322 hb); have n3_ := Aside0.mk (bb_ BK327 hb); have n4_ := Aside0.mk (below_step bel_ hb); have n5_ := Aside0.mk (hbox); have n6_ := Aside0.mk (bs_ hg); have n7_ := Aside0.mk (bs_ hg); have n8_ := Aside0.mk (nl_ BK322 hg); have n9_ := Aside0.mk (ng_ BK322 hg); have n10_ := Aside0.mk (nl_ BK327 hg); have n11_ := Aside0.mk (ng_ BK327 hg); clear HO_3; clear HO_19; clear BK322; clear BK327; clear HB; have HO_3 := n0_; have HO_19 := n1_; have BK322 := n2_; have BK327 := n3_; have HB := n4_; have BK329 := n5_; have GW329 := n6_; have GE329 := n7_; have NB322_329 := n8_; have NB329_322 := n9_; have NB327_329 := n10_; have NB329_327 := n11_; clear n0_ n1_ n2_ n3_ n4_ n5_ n6_ n7_ n8_ n9_ n10_ n11_; clear hb hbox hg; have hnb22 := NB329_322.out; have hnc22 := NB322_329.out; have hnb23 := NB329_327.out; have hnc23 := NB327_329.out; have hcz24_0 : w21.cell? ⟨gb329, 0, none⟩ = some (.int .i64 0) := (blk_cell BK329.out 0).trans rfl; have hcz24_1 : w21.cell? ⟨gb329, 1, none⟩ = some (.int .i64 0) := (blk_cell BK329.out 1).trans rfl; have hfz24_0 := blk_frozen BK329.out 0; have hfz24_1 := blk_frozen BK329.out 1; have hnb25 := NB327_322.out; have hnc25 := NB322_327.out; have hcz26_0 : w21.cell? ⟨gb327, 0, none⟩ = some (.int .i64 ((rd_T41 l0 x15_2).f0)) := (blk_cell BK327.out 0).trans rfl; have hcz26_1 : w21.cell? ⟨gb327, 1, none⟩ = some (.int .i64 ((rd_T41 l0 x15_2).f1.f0)) := (blk_cell BK327.out 1).trans rfl; have hcz26_2 : w21.cell? ⟨gb327, 2, none⟩ = some (.int .i64 ((rd_T41 l0 x15_2).f1.f1)) := (blk_cell BK327.out 2).trans rfl; have hfz26_0 := blk_frozen BK327.out 0; have hfz26_1 := blk_frozen BK327.out 1; have hfz26_2 := blk_frozen BK327.out 2))
          go_roundg k3
          case measure => have := HK1.out; have := HK2.out; have := HK3.out; omega
          case rel => exact ⟨((((rd_T25 x3_1 x21_3).f0) == ((rd_T41 l0 x15_2).f1.f0) && (((rd_T25 x3_1 x21_3).f1) == ((rd_T41 l0 x15_2).f1.f1)))), (wrap64 (x21_3 + 1)), (by first | rfl | (simp; done) | (simp [*]; done) | (simp; grind)), (by first | rfl | (simp; done) | (simp [*]; done) | (simp; grind)), H', ⟨by have := HK1.out; have := HK2.out; have := HK3.out; omega⟩, ⟨by (with_reducible repeat (first | apply Kd.R_alloc | apply Kd.R_drewN | apply Kd.R_drew)); exact Kd.R_mono (Kd.R_far (p := ⟨gb329, 1, none⟩) (Kd.R_far (p := ⟨gb329, 0, none⟩) (Kd.R_mono HO_3.out (fun k_ hk => (⟨hk, hk.2⟩ : _ ∧ k_ ≠ gb329))) (fun _ hk => hk.2) (.int .i64 ((rd_T25 x3_1 x21_3).f0))) (fun _ hk => hk.2) (.int .i64 ((rd_T25 x3_1 x21_3).f1))) (fun _ hk => hk.1.1)⟩, ⟨by (with_reducible repeat (first | apply Kd.R_alloc | apply Kd.R_drewN | apply Kd.R_drew)); exact Kd.R_mono (Kd.R_far (p := ⟨gb329, 1, none⟩) (Kd.R_far (p := ⟨gb329, 0, none⟩) (Kd.R_mono HO_19.out (fun k_ hk => (⟨hk, hk.2⟩ : _ ∧ k_ ≠ gb329))) (fun _ hk => hk.2) (.int .i64 ((rd_T25 x3_1 x21_3).f0))) (fun _ hk => hk.2) (.int .i64 ((rd_T25 x3_1 x21_3).f1))) (fun _ hk => hk.1.1)⟩, ⟨blf_⟩, ⟨blf_⟩, ⟨bel_⟩⟩
        rw [if_neg c13] at H
        have c13b0 : decide (x21_3 < (x3_1.length : Int)) = false := decide_eq_false c13
        clear c13
        by_cases c27 : x8_3 = true
        · subst c27
          have H1 : (ropewayref10_Changes.l1 k3 l0 x3_1 x5_2 l0 (l0.length : Int) (wrap64 (x15_2 + 1)) x323000_2 x323001_2) = some r := by rw [if_pos rfl] at H; exact H
          clear H
          have H := H1
          clear H1
          have H' := Aside0.mk H
          clear H
          go_wp2
          go_roundg k3
          case measure => have := HK1.out; have := HK2.out; have := HK3.out; omega
          case rel => exact ⟨(x5_2), (wrap64 (x15_2 + 1)), (x323000_2), (x323001_2), (by first | rfl | (simp; done) | (simp [*]; done) | (simp; grind)), (by first | rfl | (simp; done) | (simp [*]; done) | (simp; grind)), H', ⟨by have := HK1.out; have := HK2.out; have := HK3.out; omega⟩, ⟨by (with_reducible repeat (first | apply Kd.R_alloc | apply Kd.R_drewN | apply Kd.R_drew)); exact HO_3.out⟩, ⟨blf_⟩, ⟨bel_⟩⟩
        replace c27 := Bool.eq_false_iff.mpr c27
        subst c27
        have H1 : (if x5_2 = true then ((ropewayref05_Less.f k3 ((rd_T41 l0 x15_2).f1.f0) ((rd_T41 l0 x15_2).f1.f1) x323000_2 x323001_2).bind fun t330 => (if t330 = true then (ropewayref10_Changes.l1 k3 l0 x3_1 true l0 (l0.length : Int) (wrap64 (x15_2 + 1)) ((rd_T41 l0 x15_2).f1.f0) ((rd_T41 l0 x15_2).f1.f1)) else (ropewayref10_Changes.l1 k3 l0 x3_1 x5_2 l0 (l0.length : Int) (wrap64 (x15_2 + 1)) x323000_2 x323001_2))) else (ropewayref10_Changes.l1 k3 l0 x3_1 true l0 (l0.length : Int) (wrap64 (x15_2 + 1)) ((rd_T41 l0 x15_2).f1.f0) ((rd_T41 l0 x15_2).f1.f1))) = some r := by rw [if_neg (show ¬ (false = true) by decide)] at H; exact H
        clear H
        have H := H1
        clear H1
        by_cases c28 : x5_2 = true
        rotate_left
        · replace c28 := Bool.eq_false_iff.mpr c28
          subst c28
          have H1 : (ropewayref10_Changes.l1 k3 l0 x3_1 true l0 (l0.length : Int) (wrap64 (x15_2 + 1)) ((rd_T41 l0 x15_2).f1.f0) ((rd_T41 l0 x15_2).f1.f1)) = some r := by rw [if_neg (show ¬ (false = true) by decide)] at H; exact H
          clear H
          have H := H1
          clear H1
          have H' := Aside0.mk H
          clear H
          have hnb41 := NB327_322.out
          have hnc41 := NB322_327.out
          have hcz42_0 : wr.cell? ⟨gb327, 0, none⟩ = some (.int .i64 ((rd_T41 l0 x15_2).f0)) := (blk_cell BK327.out 0).trans rfl
          have hcz42_1 : wr.cell? ⟨gb327, 1, none⟩ = some (.int .i64 ((rd_T41 l0 x15_2).f1.f0)) := (blk_cell BK327.out 1).trans rfl
          have hcz42_2 : wr.cell? ⟨gb327, 2, none⟩ = some (.int .i64 ((rd_T41 l0 x15_2).f1.f1)) := (blk_cell BK327.out 2).trans rfl
          have hfz42_0 := blk_frozen BK327.out 0
          have hfz42_1 := blk_frozen BK327.out 1
          have hfz42_2 := blk_frozen BK327.out 2
          have hcz43_0 : wr.cell? ⟨gb322, 0, none⟩ = some (.int .i64 x323000_2) := (blk_cell BK322.out 0).trans rfl
          have hcz43_1 : wr.cell? ⟨gb322, 1, none⟩ = some (.int .i64 x323001_2) := (blk_cell BK322.out 1).trans rfl
          have hfz43_0 := blk_frozen BK322.out 0
          have hfz43_1 := blk_frozen BK322.out 1
          go_wp2
          go_roundg k3
          case measure => have := HK1.out; have := HK2.out; have := HK3.out; omega
          case rel => exact ⟨(true), (wrap64 (x15_2 + 1)), (((rd_T41 l0 x15_2).f1.f0)), (((rd_T41 l0 x15_2).f1.f1)), (by first | rfl | (simp; done) | (simp [*]; done) | (simp; grind)), (by first | rfl | (simp; done) | (simp [*]; done) | (simp; grind)), H', ⟨by have := HK1.out; have := HK2.out; have := HK3.out; omega⟩, ⟨by (with_reducible repeat (first | apply Kd.R_alloc | apply Kd.R_drewN | apply Kd.R_drew)); exact Kd.R_mono (Kd.R_far (p := ⟨gb322, 1, none⟩) (Kd.R_far (p := ⟨gb322, 0, none⟩) (Kd.R_mono HO_3.out (fun k_ hk => (⟨hk, hk⟩ : _ ∧ k_ ≠ gb322))) (fun _ hk => hk.2) (.int .i64 ((rd_T41 l0 x15_2).f1.f0))) (fun _ hk => hk.2) (.int .i64 ((rd_T41 l0 x15_2).f1.f1))) (fun _ hk => hk.1)⟩, ⟨by (with_reducible repeat (first | refine blk_drewN ?_ _ | refine blk_drew ?_ | refine blk_alloc ?_ _)); refine blk_put (cs := #[.int .i64 ((rd_T41 l0 x15_2).f1.f0), .int .i64 x323001_2]) ?_ 1 _ rfl; (with_reducible repeat (first | refine blk_drewN ?_ _ | refine blk_drew ?_ | refine blk_alloc ?_ _)); refine blk_put (cs := #[.int .i64 x323000_2, .int .i64 x323001_2]) ?_ 0 _ rfl; (with_reducible repeat (first | refine blk_drewN ?_ _ | refine blk_drew ?_ | refine blk_alloc ?_ _)); exact BK322.out⟩, ⟨bel_⟩⟩
        subst c28
        have H1 : ((ropewayref05_Less.f k3 ((rd_T41 l0 x15_2).f1.f0) ((rd_T41 l0 x15_2).f1.f1) x323000_2 x323001_2).bind fun t330 => (if t330 = true then (ropewayref10_Changes.l1 k3 l0 x3_1 true l0 (l0.length : Int) (wrap64 (x15_2 + 1)) ((rd_T41 l0 x15_2).f1.f0) ((rd_T41 l0 x15_2).f1.f1)) else (ropewayref10_Changes.l1 k3 l0 x3_1 true l0 (l0.length : Int) (wrap64 (x15_2 + 1)) x323000_2 x323001_2))) = some r := by rw [if_pos rfl] at H; exact H
        clear H
        have H := H1
        clear H1
        replace H := Option.bind_eq_some_iff.mp H
        obtain ⟨t330, A290, H⟩ := H
        replace H : (if t330 = true then (ropewayref10_Changes.l1 k3 l0 x3_1 true l0 (l0.length : Int) (wrap64 (x15_2 + 1)) ((rd_T41 l0 x15_2).f1.f0) ((rd_T41 l0 x15_2).f1.f1)) else (ropewayref10_Changes.l1 k3 l0 x3_1 true l0 (l0.length : Int) (wrap64 (x15_2 + 1)) x323000_2 x323001_2)) = some r := H
        have A29 := Aside0.mk A290
        clear A290
        by_cases c30 : t330 = true
        rotate_left
        · replace c30 := Bool.eq_false_iff.mpr c30
          subst c30
          have H1 : (ropewayref10_Changes.l1 k3 l0 x3_1 true l0 (l0.length : Int) (wrap64 (x15_2 + 1)) x323000_2 x323001_2) = some r := by rw [if_neg (show ¬ (false = true) by decide)] at H; exact H
          clear H
          have H := H1
          clear H1
          have H' := Aside0.mk H
          clear H
          have hnb37 := NB327_322.out
          have hnc37 := NB322_327.out
          have hcz38_0 : wr.cell? ⟨gb327, 0, none⟩ = some (.int .i64 ((rd_T41 l0 x15_2).f0)) := (blk_cell BK327.out 0).trans rfl
          have hcz38_1 : wr.cell? ⟨gb327, 1, none⟩ = some (.int .i64 ((rd_T41 l0 x15_2).f1.f0)) := (blk_cell BK327.out 1).trans rfl
          have hcz38_2 : wr.cell? ⟨gb327, 2, none⟩ = some (.int .i64 ((rd_T41 l0 x15_2).f1.f1)) := (blk_cell BK327.out 2).trans rfl
          have hfz38_0 := blk_frozen BK327.out 0
          have hfz38_1 := blk_frozen BK327.out 1
          have hfz38_2 := blk_frozen BK327.out 2
          have hcz39_0 : wr.cell? ⟨gb322, 0, none⟩ = some (.int .i64 x323000_2) := (blk_cell BK322.out 0).trans rfl
          have hcz39_1 : wr.cell? ⟨gb322, 1, none⟩ = some (.int .i64 x323001_2) := (blk_cell BK322.out 1).trans rfl
          have hfz39_0 := blk_frozen BK322.out 0
          have hfz39_1 := blk_frozen BK322.out 1
          go_wp2_with (first | (go_at_call 18; (with_reducible refine (ropewayref05_Less.calls k3 ((rd_T41 l0 x15_2).f1.f0) ((rd_T41 l0 x15_2).f1.f1) x323000_2 x323001_2 false _ A29.out).mono ?_); rintro e w40 ⟨rfl, hb⟩; have n0_ := Aside0.mk (Kd.R_below (rl_ HO_3) hb); have n1_ := Aside0.mk (Kd.R_below (rl_ HO_19) hb); have n2_ := Aside0.mk (bb_ BK322 hb); have n3_ := Aside0.mk (bb_ BK327 hb); have n4_ := Aside0.mk (below_step bel_ hb); clear HO_3; clear HO_19; clear BK322; clear BK327; clear HB; have HO_3 := n0_; have HO_19 := n1_; have BK322 := n2_; have BK327 := n3_; have HB := n4_; clear n0_ n1_ n2_ n3_ n4_; (try clear hb); (try clear hb2); (try clear hk); (try clear hi)))
          go_roundg k3
          case measure => have := HK1.out; have := HK2.out; have := HK3.out; omega
          case rel => exact ⟨(true), (wrap64 (x15_2 + 1)), (x323000_2), (x323001_2), (by first | rfl | (simp; done) | (simp [*]; done) | (simp; grind)), (by first | rfl | (simp; done) | (simp [*]; done) | (simp; grind)), H', ⟨by have := HK1.out; have := HK2.out; have := HK3.out; omega⟩, ⟨by (with_reducible repeat (first | apply Kd.R_alloc | apply Kd.R_drewN | apply Kd.R_drew)); exact HO_3.out⟩, ⟨blf_⟩, ⟨bel_⟩⟩
        subst c30
        have H1 : (ropewayref10_Changes.l1 k3 l0 x3_1 true l0 (l0.length : Int) (wrap64 (x15_2 + 1)) ((rd_T41 l0 x15_2).f1.f0) ((rd_T41 l0 x15_2).f1.f1)) = some r := by rw [if_pos rfl] at H; exact H
        clear H
        have H := H1
        clear H1
        have H' := Aside0.mk H
        clear H
        have hnb31 := NB327_322.out
        have hnc31 := NB322_327.out
        have hcz32_0 : wr.cell? ⟨gb327, 0, none⟩ = some (.int .i64 ((rd_T41 l0 x15_2).f0)) := (blk_cell BK327.out 0).trans rfl
        have hcz32_1 : wr.cell? ⟨gb327, 1, none⟩ = some (.int .i64 ((rd_T41 l0 x15_2).f1.f0)) := (blk_cell BK327.out 1).trans rfl
        have hcz32_2 : wr.cell? ⟨gb327, 2, none⟩ = some (.int .i64 ((rd_T41 l0 x15_2).f1.f1)) := (blk_cell BK327.out 2).trans rfl
        have hfz32_0 := blk_frozen BK327.out 0
        have hfz32_1 := blk_frozen BK327.out 1
        have hfz32_2 := blk_frozen BK327.out 2
        have hcz33_0 : wr.cell? ⟨gb322, 0, none⟩ = some (.int .i64 x323000_2) := (blk_cell BK322.out 0).trans rfl
        have hcz33_1 : wr.cell? ⟨gb322, 1, none⟩ = some (.int .i64 x323001_2) := (blk_cell BK322.out 1).trans rfl
        have hfz33_0 := blk_frozen BK322.out 0
        have hfz33_1 := blk_frozen BK322.out 1
        go_wp2_with (first | (go_at_call 18; (with_reducible refine (ropewayref05_Less.calls k3 ((rd_T41 l0 x15_2).f1.f0) ((rd_T41 l0 x15_2).f1.f1) x323000_2 x323001_2 true _ A29.out).mono ?_); rintro e w34 ⟨rfl, hb⟩; have n0_ := Aside0.mk (Kd.R_below (rl_ HO_3) hb); have n1_ := Aside0.mk (Kd.R_below (rl_ HO_19) hb); have n2_ := Aside0.mk (bb_ BK322 hb); have n3_ := Aside0.mk (bb_ BK327 hb); have n4_ := Aside0.mk (below_step bel_ hb); clear HO_3; clear HO_19; clear BK322; clear BK327; clear HB; have HO_3 := n0_; have HO_19 := n1_; have BK322 := n2_; have BK327 := n3_; have HB := n4_; clear n0_ n1_ n2_ n3_ n4_; (try clear hb); (try clear hb2); (try clear hk); (try clear hi); have hcz35_0 : w34.cell? ⟨gb327, 0, none⟩ = some (.int .i64 ((rd_T41 l0 x15_2).f0)) := (blk_cell BK327.out 0).trans rfl; have hcz35_1 : w34.cell? ⟨gb327, 1, none⟩ = some (.int .i64 ((rd_T41 l0 x15_2).f1.f0)) := (blk_cell BK327.out 1).trans rfl; have hcz35_2 : w34.cell? ⟨gb327, 2, none⟩ = some (.int .i64 ((rd_T41 l0 x15_2).f1.f1)) := (blk_cell BK327.out 2).trans rfl; have hfz35_0 := blk_frozen BK327.out 0; have hfz35_1 := blk_frozen BK327.out 1; have hfz35_2 := blk_frozen BK327.out 2; have hcz36_0 : w34.cell? ⟨gb322, 0, none⟩ = some (.int .i64 x323000_2) := (blk_cell BK322.out 0).trans rfl; have hcz36_1 : w34.cell? ⟨gb322, 1, none⟩ = some (.int .i64 x323001_2) := (blk_cell BK322.out 1).trans rfl; have hfz36_0 := blk_frozen BK322.out 0; have hfz36_1 := blk_frozen BK322.out 1))
        go_roundg k3
        case measure => have := HK1.out; have := HK2.out; have := HK3.out; omega
        case rel => exact ⟨(true), (wrap64 (x15_2 + 1)), (((rd_T41 l0 x15_2).f1.f0)), (((rd_T41 l0 x15_2).f1.f1)), (by first | rfl | (simp; done) | (simp [*]; done) | (simp; grind)), (by first | rfl | (simp; done) | (simp [*]; done) | (simp; grind)), H', ⟨by have := HK1.out; have := HK2.out; have := HK3.out; omega⟩, ⟨by (with_reducible repeat (first | apply Kd.R_alloc | apply Kd.R_drewN | apply Kd.R_drew)); exact Kd.R_mono (Kd.R_far (p := ⟨gb322, 1, none⟩) (Kd.R_far (p := ⟨gb322, 0, none⟩) (Kd.R_mono HO_3.out (fun k_ hk => (⟨hk, hk⟩ : _ ∧ k_ ≠ gb322))) (fun _ hk => hk.2) (.int .i64 ((rd_T41 l0 x15_2).f1.f0))) (fun _ hk => hk.2) (.int .i64 ((rd_T41 l0 x15_2).f1.f1))) (fun _ hk => hk.1)⟩, ⟨by (with_reducible repeat (first | refine blk_drewN ?_ _ | refine blk_drew ?_ | refine blk_alloc ?_ _)); refine blk_put (cs := #[.int .i64 ((rd_T41 l0 x15_2).f1.f0), .int .i64 x323001_2]) ?_ 1 _ rfl; (with_reducible repeat (first | refine blk_drewN ?_ _ | refine blk_drew ?_ | refine blk_alloc ?_ _)); refine blk_put (cs := #[.int .i64 x323000_2, .int .i64 x323001_2]) ?_ 0 _ rfl; (with_reducible repeat (first | refine blk_drewN ?_ _ | refine blk_drew ?_ | refine blk_alloc ?_ _)); exact BK322.out⟩, ⟨bel_⟩⟩
end Go.Proofs.Ytophohbodmnpjaa.PCellsTells
