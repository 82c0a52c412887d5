/- Written by a program of this session (wip/tool/px.py) over the kit's print: what the code that the law PastSources reaches computes, function by function, and the law's row. -/
import Derived.Test.YtmenkbdaabjojaaPPastSourcesx0
import Derived.Test.YtmenkbdaabjojaaPPastSourcesx1
import Derived.Test.YtmenkbdaabjojaaPPastSourcesx5
import Derived.Test.YtmenkbdaabjojaaPPastSourcesx7
import Derived.Test.YtmenkbdaabjojaaPPastSourcesx8
namespace Go.Proofs.Ytmenkbdaabjojaa.PPastSources
open Go.RowKit Go.Proofs.YtmenkbdaabjojaaX Go.Proofs.YtmenkbdaabjojaaW.PrintWords Go.Proofs.YtmenkbdaabjojaaW.PrintLast Go.Proofs.YtmenkbdaabjojaaW.PrintMore
attribute [local go_sem] max2_int min2_int max_two min_two max_three min_three max_four min_four   -- for this text's walks alone
set_option linter.unusedVariables false
set_option linter.unusedSimpArgs false

attribute [local go_sem] px_store_float px_neg_float px_call40
attribute [local go_sem high] eqA24
/-! ### view_Alike: function 29 -/
section
open Go.Shelf Go.Lib Go.Proofs.YtmenkbdaabjojaaV
/-! how a world has grown: 'Below', and no draw is taken back -/
structure GBelow (B : Nat) (w w' : World) : Prop where
  b : Below B w w'
  d : w.drawn ≤ w'.drawn
theorem GBelow.refl (B : Nat) (w : World) : GBelow B w w := ⟨Below.refl _ _, Nat.le_refl _⟩
theorem Gbelow_step {w W w2 : World} (h : GBelow w.heap.size w W) (k : GBelow W.heap.size W w2) : GBelow w.heap.size w w2 := ⟨below_step h.b k.b, Nat.le_trans h.d k.d⟩
theorem Gbelow_alloc {w W : World} (h : GBelow w.heap.size w W) (o : Obj) : GBelow w.heap.size w (W.alloc o) := ⟨below_alloc h.b o, h.d⟩
theorem Gpw_below_drewN {B : Nat} {w W : World} (h : GBelow B w W) (n : Nat) : GBelow B w (W.drewN n) := ⟨pw_below_drewN h.b n, Nat.le_trans h.d (Nat.le_add_right _ _)⟩
theorem Gbelow_drew1 {B : Nat} {w W : World} (h : GBelow B w W) : GBelow B w W.drew := ⟨below_drew1 h.b, Nat.le_trans h.d (Nat.le_add_right _ _)⟩
theorem Gbelow_size {w W : World} (h : GBelow w.heap.size w W) : w.heap.size ≤ W.heap.size := h.b.size
theorem Gbelow_set {w W : World} {g j : Nat} {v : Value} (h : GBelow w.heap.size w W) (hg : w.heap.size ≤ g) : GBelow w.heap.size w (W.setCell ⟨g, j, none⟩ v) := ⟨below_set h.b hg, h.d⟩
theorem Gblk_below {w w1 : World} {g : Nat} {o : Obj} (h : w.heap[g]? = some o) (hb : GBelow w.heap.size w w1) : w1.heap[g]? = some o := blk_below h hb.b
theorem Gbelow_set4 {w W : World} {g j : Nat} {v : Value} (h : GBelow w.heap.size w W) (hg : Aside0 (w.heap.size ≤ g)) : GBelow w.heap.size w (W.setCell ⟨g, j, none⟩ v) := Gbelow_set h hg.out
theorem Gbel_ {B : Nat} {a w : World} (h : GBelow B a w := by repeat (first | (with_reducible first | exact Aside0.out (by assumption) | apply Gbelow_alloc | apply Gpw_below_drewN | apply Gbelow_drew1 | refine Gbelow_set4 ?_ (by assumption)) | exact Aside0.out (by assumption))) : GBelow B a w := h
theorem Gbb_ {W0 W w1 : World} {g : Nat} {o : Obj} (_ : Aside0 (W0.heap[g]? = some o)) (hb : GBelow W.heap.size W w1) (h : W.heap[g]? = some o := by (with_reducible repeat (first | refine blk_drewN ?_ _ | refine blk_drew ?_ | refine blk_alloc ?_ _)); exact Aside0.out (by assumption)) : w1.heap[g]? = some o := Gblk_below h hb
theorem Gbs_ {w W : World} {g2 : Nat} (hg : g2 = W.heap.size) (h : GBelow w.heap.size w W := by repeat (first | (with_reducible first | exact Aside0.out (by assumption) | apply Gbelow_alloc | apply Gpw_below_drewN | apply Gbelow_drew1 | refine Gbelow_set4 ?_ (by assumption)) | exact Aside0.out (by assumption))) : w.heap.size ≤ g2 := by rw [hg]; exact Gbelow_size h
section
variable {P : Program} {ops : Array Oper} {rest : List Oper} {o : Oper} {a : Act} {Q : Exit → Act → World → Prop} {Kc : Act → World → Prop}
theorem Gbox_event {W : World} (hgd : o.guard = none) {N : Tmp} (_hd : o.dst = some N) {cs : Array Value} {t : TypeId} (hrun : (execOp a.eval o).run P W = .ok (.value (.pointer (some ⟨W.heap.size, 0, none⟩))) (W.alloc (.cells cs t (0, 0))))
    (h : ∀ g, g = W.heap.size → ∀ w1, w1.heap[g]? = some (.cells cs t (0, 0)) → GBelow W.heap.size W w1 → wpList P ops Q rest (a.put o.dst (.pointer (some ⟨g, 0, none⟩))) w1) : wpList P ops Q (o :: rest) a W :=
  Kd.event_run hgd hrun (h _ rfl _ (blk_new W _) (Gbelow_alloc (GBelow.refl _ _) _))
theorem GR_lit_step {α : Type} (d : Kd α) {w0 W : World} (base e : Nat) (hw : Region.wanted o (yielded ops a.tmps) = true) {N : Tmp} (_hd : o.dst = some N) {xs : List α} {inner : List Value} {ok okp : Nat → Prop}
    (hrun : (execOp a.eval o).run P W = .ok (.value (.slice (some ⟨W.heap.size, 0, none⟩) xs.length xs.length)) (W.alloc (.cells inner.toArray e)))
    (hrep : Reps (d.M W base okp) d.sz xs inner) (hok : ∀ k, okp k → ok k) (hfresh : ok W.heap.size) (HB : GBelow base w0 W) (hbase : base ≤ W.heap.size) (hm : xs.length ≤ 9223372036854775807)
    (h : ∀ v1 w1, d.R e w1 base ok v1 xs → GBelow base w0 w1 → W.grownBy w1 none → (∃ b, v1.ownBlock = some b ∧ W.heap.size ≤ b) → Kc (a.put o.dst v1) w1) : if Region.wanted o (yielded ops a.tmps) = true then Oper.wp P o a W Kc Q else Kc (a.put o.dst undef) W := by
  refine event_step hw hrun (h _ _ ⟨fun k hk => ?_, inner, ?_, ?_⟩ ⟨HB.b.alloc hbase _, HB.d⟩ (World.grownBy_alloc W _ none) ⟨W.heap.size, by simp [Value.ownBlock], Nat.le_refl _⟩)
  · have : W.heap.size = k := by simpa [Value.ownBlock] using hk
    subst this
    exact hfresh
  · have h2 := World.ownsRow_lit (base := base) (e := e) (size := d.sz) W inner.toArray xs.length hbase (by simpa [maxLen] using hm) (by simpa using hrep.1)
    simpa using h2
  · refine hrep.imp_ (fun p c hp => d.M_mono (fun k hk => ⟨hok k hk.1, fun he => ?_⟩) (Kd.M_below (d.M_bound hp) (below_alloc (Below.refl _ _) _)))
    have h3 : k = W.heap.size := by simpa [Value.ownBlock] using he
    have := hk.2.2.1
    omega
end
set_option maxHeartbeats 8000000 in
set_option maxRecDepth 100000 in
theorem change_Size.gcalls (a0_0 : Int) (a0_1 : Int) (r : Int) (w : World) (h : change_Size.f a0_0 a0_1 = some r) :
    Calls Try.prog 59 #[.agg #[.int .i64 a0_0, .int .i64 a0_1]] w fun e w' => e = .returned (.int .i64 r) ∧ GBelow w.heap.size w w' := by
  have hu24 := Try.underlying24
  have HB := Aside0.mk (GBelow.refl w.heap.size w)
  have H : ((bits_OnesCount.f (IntKind.u64.wrap (a0_0))).bind fun t188 => ((bits_OnesCount.f (IntKind.u64.wrap (a0_1))).bind fun t189 => (some (wrap64 (t188 + t189))))) = some r := h
  clear h
  replace H := Option.bind_eq_some_iff.mp H
  obtain ⟨t188, A20, H⟩ := H
  replace H : ((bits_OnesCount.f (IntKind.u64.wrap (a0_1))).bind fun t189 => (some (wrap64 (t188 + t189)))) = some r := H
  have A2 := Aside0.mk A20
  clear A20
  replace H := Option.bind_eq_some_iff.mp H
  obtain ⟨t189, A30, H⟩ := H
  replace H : (some (wrap64 (t188 + t189))) = some r := H
  have A3 := Aside0.mk A30
  clear A30
  obtain rfl := Option.some.inj H
  go_enter Try.func59, Try.ntmps59
  go_wp2_with (first | ((with_reducible refine gate_dst (N := 1) rfl ?_); refine Gbox_event ?hg (N := 1) ?hd (cs := #[.int .i64 a0_0, .int .i64 a0_1]) (t := 24) ?hr ?_; (case hd => rfl); (case hg => rfl); (case hr => first | (go_simp; done) | (go_simp; rfl)); intro gb187 hg w4 hbox hb; have n0_ := Aside0.mk (Gbelow_step Gbel_ hb); have n1_ := Aside0.mk (hbox); have n2_ := Aside0.mk (Gbs_ hg); have n3_ := Aside0.mk (Gbs_ hg); clear HB; have HB := n0_; have BK187 := n1_; have GW187 := n2_; have GE187 := n3_; clear n0_ n1_ n2_ n3_; clear hb hbox hg; have hcz5_0 : w4.cell? ⟨gb187, 0, none⟩ = some (.int .i64 a0_0) := (blk_cell BK187.out 0).trans rfl; have hcz5_1 : w4.cell? ⟨gb187, 1, none⟩ = some (.int .i64 a0_1) := (blk_cell BK187.out 1).trans rfl; have hfz5_0 := blk_frozen BK187.out 0; have hfz5_1 := blk_frozen BK187.out 1) | (go_at_call 66; (with_reducible refine (bits_OnesCount.calls (IntKind.u64.wrap (a0_0)) t188 _ A2.out).mono ?_); rintro e w' ⟨rfl, ⟨nd, rfl⟩⟩; (try first | exact ⟨rfl, _, World.drewN_drewN _ _ _⟩ | exact ⟨rfl, _, Eq.trans (World.drewN_drewN _ _ _) (congrArg (World.drewN _) (Nat.add_assoc _ _ _))⟩)) | (go_at_call 66; (with_reducible refine (bits_OnesCount.calls (IntKind.u64.wrap (a0_1)) t189 _ A3.out).mono ?_); rintro e w' ⟨rfl, ⟨nd, rfl⟩⟩; (try first | exact ⟨rfl, _, World.drewN_drewN _ _ _⟩ | exact ⟨rfl, _, Eq.trans (World.drewN_drewN _ _ _) (congrArg (World.drewN _) (Nat.add_assoc _ _ _))⟩)))
  repeat (go_quiet (first | ((with_reducible refine gate_dst (N := 1) rfl ?_); refine Gbox_event ?hg (N := 1) ?hd (cs := #[.int .i64 a0_0, .int .i64 a0_1]) (t := 24) ?hr ?_; (case hd => rfl); (case hg => rfl); (case hr => first | (go_simp; done) | (go_simp; rfl)); intro gb187 hg w4 hbox hb; have n0_ := Aside0.mk (Gbelow_step Gbel_ hb); have n1_ := Aside0.mk (hbox); have n2_ := Aside0.mk (Gbs_ hg); have n3_ := Aside0.mk (Gbs_ hg); clear HB; have HB := n0_; have BK187 := n1_; have GW187 := n2_; have GE187 := n3_; clear n0_ n1_ n2_ n3_; clear hb hbox hg; have hcz5_0 : w4.cell? ⟨gb187, 0, none⟩ = some (.int .i64 a0_0) := (blk_cell BK187.out 0).trans rfl; have hcz5_1 : w4.cell? ⟨gb187, 1, none⟩ = some (.int .i64 a0_1) := (blk_cell BK187.out 1).trans rfl; have hfz5_0 := blk_frozen BK187.out 0; have hfz5_1 := blk_frozen BK187.out 1) | (go_at_call 66; (with_reducible refine (bits_OnesCount.calls (IntKind.u64.wrap (a0_0)) t188 _ A2.out).mono ?_); rintro e w' ⟨rfl, ⟨nd, rfl⟩⟩; (try first | exact ⟨rfl, _, World.drewN_drewN _ _ _⟩ | exact ⟨rfl, _, Eq.trans (World.drewN_drewN _ _ _) (congrArg (World.drewN _) (Nat.add_assoc _ _ _))⟩)) | (go_at_call 66; (with_reducible refine (bits_OnesCount.calls (IntKind.u64.wrap (a0_1)) t189 _ A3.out).mono ?_); rintro e w' ⟨rfl, ⟨nd, rfl⟩⟩; (try first | exact ⟨rfl, _, World.drewN_drewN _ _ _⟩ | exact ⟨rfl, _, Eq.trans (World.drewN_drewN _ _ _) (congrArg (World.drewN _) (Nat.add_assoc _ _ _))⟩))); try go_wp2_with (first | ((with_reducible refine gate_dst (N := 1) rfl ?_); refine Gbox_event ?hg (N := 1) ?hd (cs := #[.int .i64 a0_0, .int .i64 a0_1]) (t := 24) ?hr ?_; (case hd => rfl); (case hg => rfl); (case hr => first | (go_simp; done) | (go_simp; rfl)); intro gb187 hg w4 hbox hb; have n0_ := Aside0.mk (Gbelow_step Gbel_ hb); have n1_ := Aside0.mk (hbox); have n2_ := Aside0.mk (Gbs_ hg); have n3_ := Aside0.mk (Gbs_ hg); clear HB; have HB := n0_; have BK187 := n1_; have GW187 := n2_; have GE187 := n3_; clear n0_ n1_ n2_ n3_; clear hb hbox hg; have hcz5_0 : w4.cell? ⟨gb187, 0, none⟩ = some (.int .i64 a0_0) := (blk_cell BK187.out 0).trans rfl; have hcz5_1 : w4.cell? ⟨gb187, 1, none⟩ = some (.int .i64 a0_1) := (blk_cell BK187.out 1).trans rfl; have hfz5_0 := blk_frozen BK187.out 0; have hfz5_1 := blk_frozen BK187.out 1) | (go_at_call 66; (with_reducible refine (bits_OnesCount.calls (IntKind.u64.wrap (a0_0)) t188 _ A2.out).mono ?_); rintro e w' ⟨rfl, ⟨nd, rfl⟩⟩; (try first | exact ⟨rfl, _, World.drewN_drewN _ _ _⟩ | exact ⟨rfl, _, Eq.trans (World.drewN_drewN _ _ _) (congrArg (World.drewN _) (Nat.add_assoc _ _ _))⟩)) | (go_at_call 66; (with_reducible refine (bits_OnesCount.calls (IntKind.u64.wrap (a0_1)) t189 _ A3.out).mono ?_); rintro e w' ⟨rfl, ⟨nd, rfl⟩⟩; (try first | exact ⟨rfl, _, World.drewN_drewN _ _ _⟩ | exact ⟨rfl, _, Eq.trans (World.drewN_drewN _ _ _) (congrArg (World.drewN _) (Nat.add_assoc _ _ _))⟩))))
  go_ret
  exact ⟨by first | rfl | (simp [errW_none, errW_some] <;> rfl) | (simp [*, errW_none, errW_some] <;> rfl), Gbel_⟩
set_option maxHeartbeats 8000000 in
set_option maxRecDepth 100000 in
theorem change_Name.gcalls (a0_0 : Int) (a0_1 : Int) (r : Int) (w : World) (h : change_Name.f a0_0 a0_1 = some r) :
    Calls Try.prog 60 #[.agg #[.int .i64 a0_0, .int .i64 a0_1]] w fun e w' => e = .returned (.int .i64 r) ∧ GBelow w.heap.size w w' := by
  have hu24 := Try.underlying24
  have HB := Aside0.mk (GBelow.refl w.heap.size w)
  have H : (some (wrap64 ((wrap64 (a0_0 * 64)) + a0_1))) = some r := h
  clear h
  obtain rfl := Option.some.inj H
  go_enter Try.func60, Try.ntmps60
  go_wp2_with (first | ((with_reducible refine gate_dst (N := 1) rfl ?_); refine Gbox_event ?hg (N := 1) ?hd (cs := #[.int .i64 a0_0, .int .i64 a0_1]) (t := 24) ?hr ?_; (case hd => rfl); (case hg => rfl); (case hr => first | (go_simp; done) | (go_simp; rfl)); intro gb190 hg w2 hbox hb; have n0_ := Aside0.mk (Gbelow_step Gbel_ hb); have n1_ := Aside0.mk (hbox); have n2_ := Aside0.mk (Gbs_ hg); have n3_ := Aside0.mk (Gbs_ hg); clear HB; have HB := n0_; have BK190 := n1_; have GW190 := n2_; have GE190 := n3_; clear n0_ n1_ n2_ n3_; clear hb hbox hg; have hcz3_0 : w2.cell? ⟨gb190, 0, none⟩ = some (.int .i64 a0_0) := (blk_cell BK190.out 0).trans rfl; have hcz3_1 : w2.cell? ⟨gb190, 1, none⟩ = some (.int .i64 a0_1) := (blk_cell BK190.out 1).trans rfl; have hfz3_0 := blk_frozen BK190.out 0; have hfz3_1 := blk_frozen BK190.out 1))
  go_ret
  exact ⟨by first | rfl | (simp [errW_none, errW_some] <;> rfl) | (simp [*, errW_none, errW_some] <;> rfl), Gbel_⟩
set_option maxHeartbeats 8000000 in
set_option maxRecDepth 100000 in
theorem view_compare.gcalls (k : Nat) (a0_0 : Int) (a0_1 : Int) (a1_0 : Int) (a1_1 : Int) (r : Int) (w : World) (h : view_compare.f k a0_0 a0_1 a1_0 a1_1 = some r) :
    Calls Try.prog 48 #[.agg #[.int .i64 a0_0, .int .i64 a0_1], .agg #[.int .i64 a1_0, .int .i64 a1_1]] w fun e w' => e = .returned (.int .i64 r) ∧ GBelow w.heap.size w w' := by
  have hu24 := Try.underlying24
  have HB := Aside0.mk (GBelow.refl w.heap.size w)
  have H : ((change_Size.f a0_0 a0_1).bind fun t193 => ((change_Size.f a1_0 a1_1).bind fun t194 => ((cmp_Compare_int.f t193 t194).bind fun t195 => ((change_Name.f a0_0 a0_1).bind fun t196 => ((change_Name.f a1_0 a1_1).bind fun t197 => ((cmp_Compare_int.f t196 t197).bind fun t198 => ((cmp_Or_int.f k (([t195, t198] : List Int))).bind fun t202 => (some t202)))))))) = some r := h
  clear h
  replace H := Option.bind_eq_some_iff.mp H
  obtain ⟨t193, A30, H⟩ := H
  replace H : ((change_Size.f a1_0 a1_1).bind fun t194 => ((cmp_Compare_int.f t193 t194).bind fun t195 => ((change_Name.f a0_0 a0_1).bind fun t196 => ((change_Name.f a1_0 a1_1).bind fun t197 => ((cmp_Compare_int.f t196 t197).bind fun t198 => ((cmp_Or_int.f k (([t195, t198] : List Int))).bind fun t202 => (some t202))))))) = some r := H
  have A3 := Aside0.mk A30
  clear A30
  replace H := Option.bind_eq_some_iff.mp H
  obtain ⟨t194, A40, H⟩ := H
  replace H : ((cmp_Compare_int.f t193 t194).bind fun t195 => ((change_Name.f a0_0 a0_1).bind fun t196 => ((change_Name.f a1_0 a1_1).bind fun t197 => ((cmp_Compare_int.f t196 t197).bind fun t198 => ((cmp_Or_int.f k (([t195, t198] : List Int))).bind fun t202 => (some t202)))))) = some r := H
  have A4 := Aside0.mk A40
  clear A40
  replace H := Option.bind_eq_some_iff.mp H
  obtain ⟨t195, A50, H⟩ := H
  replace H : ((change_Name.f a0_0 a0_1).bind fun t196 => ((change_Name.f a1_0 a1_1).bind fun t197 => ((cmp_Compare_int.f t196 t197).bind fun t198 => ((cmp_Or_int.f k (([t195, t198] : List Int))).bind fun t202 => (some t202))))) = some r := H
  have A5 := Aside0.mk A50
  clear A50
  replace H := Option.bind_eq_some_iff.mp H
  obtain ⟨t196, A60, H⟩ := H
  replace H : ((change_Name.f a1_0 a1_1).bind fun t197 => ((cmp_Compare_int.f t196 t197).bind fun t198 => ((cmp_Or_int.f k (([t195, t198] : List Int))).bind fun t202 => (some t202)))) = some r := H
  have A6 := Aside0.mk A60
  clear A60
  replace H := Option.bind_eq_some_iff.mp H
  obtain ⟨t197, A70, H⟩ := H
  replace H : ((cmp_Compare_int.f t196 t197).bind fun t198 => ((cmp_Or_int.f k (([t195, t198] : List Int))).bind fun t202 => (some t202))) = some r := H
  have A7 := Aside0.mk A70
  clear A70
  replace H := Option.bind_eq_some_iff.mp H
  obtain ⟨t198, A80, H⟩ := H
  replace H : ((cmp_Or_int.f k (([t195, t198] : List Int))).bind fun t202 => (some t202)) = some r := H
  have A8 := Aside0.mk A80
  clear A80
  obtain ⟨y199, hy199⟩ : ∃ y_ : List Int, y_ = (([t195, t198] : List Int)) := ⟨_, rfl⟩
  replace H : ((cmp_Or_int.f k y199).bind fun t202 => (some t202)) = some r := by first | (rw [hy199]; with_reducible exact H) | (have H2_ := (Option.bind_some _ _).symm.trans H; rw [hy199]; with_reducible exact H2_) | (have H2_ := (Option.bind_some _ _).symm.trans H; with_reducible exact H2_) | with_reducible exact H | (rw [hy199]; exact H) | exact H
  have Ny199 := Aside0.mk hy199
  clear hy199
  replace H := Option.bind_eq_some_iff.mp H
  obtain ⟨t202, A90, H⟩ := H
  replace H : (some t202) = some r := H
  have A9 := Aside0.mk A90
  clear A90
  obtain rfl := Option.some.inj H
  go_enter Try.func48, Try.ntmps48
  try go_wp2_with (first | ((with_reducible refine gate_dst (N := 2) rfl ?_); refine Gbox_event ?hg (N := 2) ?hd (cs := #[.int .i64 a0_0, .int .i64 a0_1]) (t := 24) ?hr ?_; (case hd => rfl); (case hg => rfl); (case hr => first | (go_simp; done) | (go_simp; rfl)); intro gb191 hg w10 hbox hb; have n0_ := Aside0.mk (Gbelow_step Gbel_ hb); have n1_ := Aside0.mk (hbox); have n2_ := Aside0.mk (Gbs_ hg); have n3_ := Aside0.mk (Gbs_ hg); clear HB; have HB := n0_; have BK191 := n1_; have GW191 := n2_; have GE191 := n3_; clear n0_ n1_ n2_ n3_; clear hb hbox hg) | ((with_reducible refine gate_dst (N := 3) rfl ?_); refine Gbox_event ?hg (N := 3) ?hd (cs := #[.int .i64 a1_0, .int .i64 a1_1]) (t := 24) ?hr ?_; (case hd => rfl); (case hg => rfl); (case hr => first | (go_simp; done) | (go_simp; rfl)); intro gb192 hg w11 hbox hb; have n0_ := Aside0.mk (Gbb_ BK191 hb); have n1_ := Aside0.mk (Gbelow_step Gbel_ hb); have n2_ := Aside0.mk (hbox); have n3_ := Aside0.mk (Gbs_ hg); have n4_ := Aside0.mk (Gbs_ hg); have n5_ := Aside0.mk (nl_ BK191 hg); have n6_ := Aside0.mk (ng_ BK191 hg); clear BK191; clear HB; have BK191 := n0_; have HB := n1_; have BK192 := n2_; have GW192 := n3_; have GE192 := n4_; have NB191_192 := n5_; have NB192_191 := n6_; clear n0_ n1_ n2_ n3_ n4_ n5_ n6_; clear hb hbox hg))
  have n0_ := Aside0.mk (blk_drew BK191.out)
  have n1_ := Aside0.mk (blk_drew BK192.out)
  have n2_ := Aside0.mk (Gbelow_drew1 HB.out)
  clear BK191
  clear BK192
  clear HB
  have BK191 := n0_
  have BK192 := n1_
  have HB := n2_
  clear n0_ n1_ n2_
  refine start_ (n := 13) (S := fun w' => w'.cell? ⟨gb191, 0, none⟩ = some (.int .i64 a0_0) ∧ w'.cell? ⟨gb191, 1, none⟩ = some (.int .i64 a0_1) ∧ w'.cell? ⟨gb192, 0, none⟩ = some (.int .i64 a1_0) ∧ w'.cell? ⟨gb192, 1, none⟩ = some (.int .i64 a1_1)) (ds := []) #[F_, F_, F_, F_, F_, F_, F_, F_, F_, F_, F_, F_, F_] (by kernel_rfl) rfl rfl ⟨(blk_cell BK191.out 0).trans rfl, (blk_cell BK191.out 1).trans rfl, (blk_cell BK192.out 0).trans rfl, (blk_cell BK192.out 1).trans rfl⟩ (fun hHeld => ?_); refine with_tabW view_compare.tab1 view_compare.bits1 (fun HT_ HW_ => ?_)
  generalize w11.drew = w12 at BK191 BK192 HB hHeld ⊢
  refine take_ (i := 0) (N := some 5) (v := ?_) (a' := ?_) #[T_, F_, F_, F_, F_, F_, F_, F_, F_, F_, F_, F_, F_] rfl rfl (take_ofW HT_.out HW_.out (by kernel_rfl)) (fun _ _ _ h => h) (Or.inl ⟨by rfl, ?_⟩) hHeld ?_ ?_
  rotate_left
  · rintro w' ⟨s0, s1, s2, s3⟩
    go_simp
    with_reducible rfl
  rotate_left
  · simp only [Act.put, List.setIfInBounds_toArray, List.set_cons_zero, List.set_cons_succ, i64_w, i32_w]
    rfl
  refine take_ (i := 2) (N := some 7) (v := ?_) (a' := ?_) #[T_, F_, T_, F_, F_, F_, F_, F_, F_, F_, F_, F_, F_] rfl rfl (take_ofW HT_.out HW_.out (by kernel_rfl)) (fun _ _ _ h => h) (Or.inl ⟨by rfl, ?_⟩) hHeld ?_ ?_
  rotate_left
  · rintro w' ⟨s0, s1, s2, s3⟩
    go_simp
    with_reducible rfl
  rotate_left
  · simp only [Act.put, List.setIfInBounds_toArray, List.set_cons_zero, List.set_cons_succ, i64_w, i32_w]
    rfl
  refine take_ (i := 5) (N := some 10) (v := ?_) (a' := ?_) #[T_, F_, T_, F_, F_, T_, F_, F_, F_, F_, F_, F_, F_] rfl rfl (take_ofW HT_.out HW_.out (by kernel_rfl)) (fun _ _ _ h => h) (Or.inl ⟨by rfl, ?_⟩) hHeld ?_ ?_
  rotate_left
  · rintro w' ⟨s0, s1, s2, s3⟩
    go_simp
    with_reducible rfl
  rotate_left
  · simp only [Act.put, List.setIfInBounds_toArray, List.set_cons_zero, List.set_cons_succ, i64_w, i32_w]
    rfl
  refine take_ (i := 7) (N := some 12) (v := ?_) (a' := ?_) #[T_, F_, T_, F_, F_, T_, F_, T_, F_, F_, F_, F_, F_] rfl rfl (take_ofW HT_.out HW_.out (by kernel_rfl)) (fun _ _ _ h => h) (Or.inl ⟨by rfl, ?_⟩) hHeld ?_ ?_
  rotate_left
  · rintro w' ⟨s0, s1, s2, s3⟩
    go_simp
    with_reducible rfl
  rotate_left
  · simp only [Act.put, List.setIfInBounds_toArray, List.set_cons_zero, List.set_cons_succ, i64_w, i32_w]
    rfl
  refine one_ (i := 1) (N := some 6) #[T_, T_, T_, F_, F_, T_, F_, T_, F_, F_, F_, F_, F_] rfl rfl (one_of HT_.out (by kernel_rfl)) (by decide) (fun K hK => ?_)
  refine goes_ Try.func59 (by kernel_rfl) rfl #[.agg #[.int .i64 a0_0, .int .i64 a0_1]] (by rfl) rfl rfl (by (try simp only [List.map_toArray, List.map_cons, List.map_nil]); first | done | rfl | (simp only [List.length_drop, List.length_take]; rfl)) ?_
  with_reducible refine (change_Size.gcalls a0_0 a0_1 t193 _ A3.out).mono ?_
  rintro e w13 ⟨rfl, hb⟩
  refine ⟨_, rfl, ?_⟩
  have n0_ := Aside0.mk (Gbb_ BK191 hb)
  have n1_ := Aside0.mk (Gbb_ BK192 hb)
  have n2_ := Aside0.mk (Gbelow_step Gbel_ hb)
  clear BK191
  clear BK192
  clear HB
  have BK191 := n0_
  have BK192 := n1_
  have HB := n2_
  clear n0_ n1_ n2_
  (try clear hb)
  (try clear hb2)
  (try clear hk)
  (try clear hi)
  refine hK.out _ _ ⟨(blk_cell BK191.out 0).trans rfl, (blk_cell BK191.out 1).trans rfl, (blk_cell BK192.out 0).trans rfl, (blk_cell BK192.out 1).trans rfl⟩ (fun hHeld => ?_)
  clear hK K
  refine norm_ (a' := ?_) ?_ ?_
  rotate_left
  · show Act.put _ (some 6) _ = _
    simp only [Act.put, List.setIfInBounds_toArray, List.set_cons_zero, List.set_cons_succ, i64_w, i32_w]
    rfl
  refine one_ (i := 3) (N := some 8) #[T_, T_, T_, T_, F_, T_, F_, T_, F_, F_, F_, F_, F_] rfl rfl (one_of HT_.out (by kernel_rfl)) (by decide) (fun K hK => ?_)
  refine goes_ Try.func59 (by kernel_rfl) rfl #[.agg #[.int .i64 a1_0, .int .i64 a1_1]] (by rfl) rfl rfl (by (try simp only [List.map_toArray, List.map_cons, List.map_nil]); first | done | rfl | (simp only [List.length_drop, List.length_take]; rfl)) ?_
  with_reducible refine (change_Size.gcalls a1_0 a1_1 t194 _ A4.out).mono ?_
  rintro e w14 ⟨rfl, hb⟩
  refine ⟨_, rfl, ?_⟩
  have n0_ := Aside0.mk (Gbb_ BK191 hb)
  have n1_ := Aside0.mk (Gbb_ BK192 hb)
  have n2_ := Aside0.mk (Gbelow_step Gbel_ hb)
  clear BK191
  clear BK192
  clear HB
  have BK191 := n0_
  have BK192 := n1_
  have HB := n2_
  clear n0_ n1_ n2_
  (try clear hb)
  (try clear hb2)
  (try clear hk)
  (try clear hi)
  refine hK.out _ _ ⟨(blk_cell BK191.out 0).trans rfl, (blk_cell BK191.out 1).trans rfl, (blk_cell BK192.out 0).trans rfl, (blk_cell BK192.out 1).trans rfl⟩ (fun hHeld => ?_)
  clear hK K
  refine norm_ (a' := ?_) ?_ ?_
  rotate_left
  · show Act.put _ (some 8) _ = _
    simp only [Act.put, List.setIfInBounds_toArray, List.set_cons_zero, List.set_cons_succ, i64_w, i32_w]
    rfl
  refine one_ (i := 4) (N := some 9) #[T_, T_, T_, T_, T_, T_, F_, T_, F_, F_, F_, F_, F_] rfl rfl (one_of HT_.out (by kernel_rfl)) (by decide) (fun K hK => ?_)
  refine goes_ Try.func58 (by kernel_rfl) rfl #[.int .i64 t193, .int .i64 t194] (by rfl) rfl rfl (by (try simp only [List.map_toArray, List.map_cons, List.map_nil]); first | done | rfl | (simp only [List.length_drop, List.length_take]; rfl)) ?_
  with_reducible refine (cmp_Compare_int.calls t193 t194 t195 _ A5.out).mono ?_
  rintro e w' ⟨rfl, ⟨nd, rfl⟩⟩
  refine ⟨_, rfl, ?_⟩
  refine hK.out _ _ ⟨(blk_cell BK191.out 0).trans rfl, (blk_cell BK191.out 1).trans rfl, (blk_cell BK192.out 0).trans rfl, (blk_cell BK192.out 1).trans rfl⟩ (fun hHeld => ?_)
  clear hK K
  refine norm_ (a' := ?_) ?_ ?_
  rotate_left
  · show Act.put _ (some 9) _ = _
    simp only [Act.put, List.setIfInBounds_toArray, List.set_cons_zero, List.set_cons_succ, i64_w, i32_w]
    rfl
  refine one_ (i := 6) (N := some 11) #[T_, T_, T_, T_, T_, T_, T_, T_, F_, F_, F_, F_, F_] rfl rfl (one_of HT_.out (by kernel_rfl)) (by decide) (fun K hK => ?_)
  refine goes_ Try.func60 (by kernel_rfl) rfl #[.agg #[.int .i64 a0_0, .int .i64 a0_1]] (by rfl) rfl rfl (by (try simp only [List.map_toArray, List.map_cons, List.map_nil]); first | done | rfl | (simp only [List.length_drop, List.length_take]; rfl)) ?_
  with_reducible refine (change_Name.gcalls a0_0 a0_1 t196 _ A6.out).mono ?_
  rintro e w15 ⟨rfl, hb⟩
  refine ⟨_, rfl, ?_⟩
  have n0_ := Aside0.mk (Gbb_ BK191 hb)
  have n1_ := Aside0.mk (Gbb_ BK192 hb)
  have n2_ := Aside0.mk (Gbelow_step Gbel_ hb)
  clear BK191
  clear BK192
  clear HB
  have BK191 := n0_
  have BK192 := n1_
  have HB := n2_
  clear n0_ n1_ n2_
  (try clear hb)
  (try clear hb2)
  (try clear hk)
  (try clear hi)
  refine hK.out _ _ ⟨(blk_cell BK191.out 0).trans rfl, (blk_cell BK191.out 1).trans rfl, (blk_cell BK192.out 0).trans rfl, (blk_cell BK192.out 1).trans rfl⟩ (fun hHeld => ?_)
  clear hK K
  refine norm_ (a' := ?_) ?_ ?_
  rotate_left
  · show Act.put _ (some 11) _ = _
    simp only [Act.put, List.setIfInBounds_toArray, List.set_cons_zero, List.set_cons_succ, i64_w, i32_w]
    rfl
  refine one_ (i := 8) (N := some 13) #[T_, T_, T_, T_, T_, T_, T_, T_, T_, F_, F_, F_, F_] rfl rfl (one_of HT_.out (by kernel_rfl)) (by decide) (fun K hK => ?_)
  refine goes_ Try.func60 (by kernel_rfl) rfl #[.agg #[.int .i64 a1_0, .int .i64 a1_1]] (by rfl) rfl rfl (by (try simp only [List.map_toArray, List.map_cons, List.map_nil]); first | done | rfl | (simp only [List.length_drop, List.length_take]; rfl)) ?_
  with_reducible refine (change_Name.gcalls a1_0 a1_1 t197 _ A7.out).mono ?_
  rintro e w16 ⟨rfl, hb⟩
  refine ⟨_, rfl, ?_⟩
  have n0_ := Aside0.mk (Gbb_ BK191 hb)
  have n1_ := Aside0.mk (Gbb_ BK192 hb)
  have n2_ := Aside0.mk (Gbelow_step Gbel_ hb)
  clear BK191
  clear BK192
  clear HB
  have BK191 := n0_
  have BK192 := n1_
  have HB := n2_
  clear n0_ n1_ n2_
  (try clear hb)
  (try clear hb2)
  (try clear hk)
  (try clear hi)
  refine hK.out _ _ ⟨(blk_cell BK191.out 0).trans rfl, (blk_cell BK191.out 1).trans rfl, (blk_cell BK192.out 0).trans rfl, (blk_cell BK192.out 1).trans rfl⟩ (fun hHeld => ?_)
  clear hK K
  refine norm_ (a' := ?_) ?_ ?_
  rotate_left
  · show Act.put _ (some 13) _ = _
    simp only [Act.put, List.setIfInBounds_toArray, List.set_cons_zero, List.set_cons_succ, i64_w, i32_w]
    rfl
  refine one_ (i := 9) (N := some 14) #[T_, T_, T_, T_, T_, T_, T_, T_, T_, T_, F_, F_, F_] rfl rfl (one_of HT_.out (by kernel_rfl)) (by decide) (fun K hK => ?_)
  refine goes_ Try.func58 (by kernel_rfl) rfl #[.int .i64 t196, .int .i64 t197] (by rfl) rfl rfl (by (try simp only [List.map_toArray, List.map_cons, List.map_nil]); first | done | rfl | (simp only [List.length_drop, List.length_take]; rfl)) ?_
  with_reducible refine (cmp_Compare_int.calls t196 t197 t198 _ A8.out).mono ?_
  rintro e w' ⟨rfl, ⟨nd, rfl⟩⟩
  refine ⟨_, rfl, ?_⟩
  refine hK.out _ _ ⟨(blk_cell BK191.out 0).trans rfl, (blk_cell BK191.out 1).trans rfl, (blk_cell BK192.out 0).trans rfl, (blk_cell BK192.out 1).trans rfl⟩ (fun hHeld => ?_)
  clear hK K
  refine norm_ (a' := ?_) ?_ ?_
  rotate_left
  · show Act.put _ (some 14) _ = _
    simp only [Act.put, List.setIfInBounds_toArray, List.set_cons_zero, List.set_cons_succ, i64_w, i32_w]
    rfl
  refine one_ (i := 10) (N := some 15) #[T_, T_, T_, T_, T_, T_, T_, T_, T_, T_, T_, F_, F_] rfl rfl (one_of HT_.out (by kernel_rfl)) (by decide) (fun K hK => ?_)
  refine GR_lit_step (Kd.int .i64) _ 3 ?hg (N := 15) ?hd (xs := ([t195, t198] : List Int)) (inner := [.int .i64 t195, .int .i64 t198]) (ok := fun _ => True) (okp := fun _ => True) ?hr ?hp (fun _ hk => hk) trivial (GBelow.refl _ _) (Nat.le_refl _) (by simp) ?_; (case hd => rfl); (case hg => rfl); (case hr => first | (go_simp; done) | (go_simp; rfl)); (case hp => exact (Reps.one (show Kd.M (Kd.int .i64) _ _ _ t195 [.int .i64 t195] from rfl) (Reps.one (show Kd.M (Kd.int .i64) _ _ _ t198 [.int .i64 t198] from rfl) (Reps.none _ _))))
  intro v200 w17 ho18 hb hg_ hnew_
  clear hg_ hnew_
  (first | rw [← Ny199.out] at ho18 | (simp only [Int.reduceToNat] at ho18; rw [← Ny199.out] at ho18))
  have n0_ := Aside0.mk (Kd.R_lower ho18 (Gbelow_size Gbel_))
  have n1_ := Aside0.mk (Gbb_ BK191 hb)
  have n2_ := Aside0.mk (Gbb_ BK192 hb)
  have n3_ := Aside0.mk (Gbelow_step Gbel_ hb)
  clear BK191
  clear BK192
  clear HB
  have HO201 := n0_
  have BK191 := n1_
  have BK192 := n2_
  have HB := n3_
  clear n0_ n1_ n2_ n3_
  clear hb ho18
  obtain ⟨Ao19, co19, eo19⟩ := Kd.R_slice HO201.out
  (first | subst eo19 | (injection eo19 with f1_ f2_ f3_; have f4_ := f1_.symm; have f5_ := f3_.symm; clear f1_ f2_ f3_; subst f4_; subst f5_))
  refine hK.out _ _ ⟨(blk_cell BK191.out 0).trans rfl, (blk_cell BK191.out 1).trans rfl, (blk_cell BK192.out 0).trans rfl, (blk_cell BK192.out 1).trans rfl⟩ (fun hHeld => ?_)
  clear hK K
  refine norm_ (a' := ?_) ?_ ?_
  rotate_left
  · show Act.put _ (some 15) _ = _
    simp only [Act.put, List.setIfInBounds_toArray, List.set_cons_zero, List.set_cons_succ, i64_w, i32_w]
    rfl
  refine one_ (i := 11) (N := some 16) #[T_, T_, T_, T_, T_, T_, T_, T_, T_, T_, T_, T_, F_] rfl rfl (one_of HT_.out (by kernel_rfl)) (by decide) (fun K hK => ?_)
  refine goes_ Try.func57 (by kernel_rfl) rfl #[.slice Ao19 y199.length co19] (by rfl) rfl rfl (by (try simp only [List.map_toArray, List.map_cons, List.map_nil]); first | done | rfl | (simp only [List.length_drop, List.length_take]; rfl)) ?_
  with_reducible refine (cmp_Or_int.calls k _ _ y199 t202 _ ?side1 ?side2 A9.out).mono ?_
  (case side1 => repeat (first | exact (Kd.R_reads' HO201.out).2.2 | (with_reducible refine Kd.C_alloc ?_ _) | (with_reducible refine Kd.C_drewN ?_ _) | (with_reducible refine Kd.C_drew ?_)))
  (case side2 => exact (Kd.R_reads' HO201.out).2.1)
  rintro e w' ⟨rfl, ⟨nd, rfl⟩⟩
  refine ⟨_, rfl, ?_⟩
  refine hK.out _ _ ⟨(blk_cell BK191.out 0).trans rfl, (blk_cell BK191.out 1).trans rfl, (blk_cell BK192.out 0).trans rfl, (blk_cell BK192.out 1).trans rfl⟩ (fun hHeld => ?_)
  clear hK K
  refine norm_ (a' := ?_) ?_ ?_
  rotate_left
  · show Act.put _ (some 16) _ = _
    simp only [Act.put, List.setIfInBounds_toArray, List.set_cons_zero, List.set_cons_succ, i64_w, i32_w]
    rfl
  refine pure_ (i := 12) (N := some 4) (v := ?_) (a' := ?_) #[T_, T_, T_, T_, T_, T_, T_, T_, T_, T_, T_, T_, T_] rfl rfl (any_of HT_.out (by kernel_rfl)) (fun _ _ _ h => h) (Or.inl ⟨by rfl, ?_⟩) ?_ ?_
  rotate_left
  · intro w'
    go_simp
    with_reducible rfl
  rotate_left
  · simp only [Act.put, List.setIfInBounds_toArray, List.set_cons_zero, List.set_cons_succ, i64_w, i32_w]
    rfl
  refine done_ (done_of HT_.out (by kernel_rfl)) ?_
  try go_wp2
  go_ret
  exact ⟨by first | rfl | (simp [errW_none, errW_some] <;> rfl) | (simp [*, errW_none, errW_some] <;> rfl), Gbel_⟩
set_option maxHeartbeats 8000000 in
set_option maxRecDepth 100000 in
theorem change_Minus.gcalls (a0_0 : Int) (a0_1 : Int) (a1_0 : Int) (a1_1 : Int) (r1 : Int) (r2 : Int) (w : World) (h : change_Minus.f a0_0 a0_1 a1_0 a1_1 = some (r1, r2)) :
    Calls Try.prog 45 #[.agg #[.int .i64 a0_0, .int .i64 a0_1], .agg #[.int .i64 a1_0, .int .i64 a1_1]] w fun e w' => e = .returned (.agg #[.int .i64 r1, .int .i64 r2]) ∧ GBelow w.heap.size w w' := by
  have hu24 := Try.underlying24
  have HB := Aside0.mk (GBelow.refl w.heap.size w)
  have H : (some (Go.bits .andNot .i64 a0_0 a1_0, Go.bits .andNot .i64 a0_1 a1_1)) = some (r1, r2) := h
  clear h
  simp only [Option.some.injEq, Prod.mk.injEq] at H
  obtain ⟨rfl, rfl⟩ := H
  go_enter Try.func45, Try.ntmps45
  go_wp2_with (first | ((with_reducible refine gate_dst (N := 2) rfl ?_); refine Gbox_event ?hg (N := 2) ?hd (cs := #[.int .i64 a0_0, .int .i64 a0_1]) (t := 24) ?hr ?_; (case hd => rfl); (case hg => rfl); (case hr => first | (go_simp; done) | (go_simp; rfl)); intro gb163 hg w3 hbox hb; have n0_ := Aside0.mk (Gbelow_step Gbel_ hb); have n1_ := Aside0.mk (hbox); have n2_ := Aside0.mk (Gbs_ hg); have n3_ := Aside0.mk (Gbs_ hg); clear HB; have HB := n0_; have BK163 := n1_; have GW163 := n2_; have GE163 := n3_; clear n0_ n1_ n2_ n3_; clear hb hbox hg) | ((with_reducible refine gate_dst (N := 3) rfl ?_); refine Gbox_event ?hg (N := 3) ?hd (cs := #[.int .i64 a1_0, .int .i64 a1_1]) (t := 24) ?hr ?_; (case hd => rfl); (case hg => rfl); (case hr => first | (go_simp; done) | (go_simp; rfl)); intro gb164 hg w4 hbox hb; have n0_ := Aside0.mk (Gbb_ BK163 hb); have n1_ := Aside0.mk (Gbelow_step Gbel_ hb); have n2_ := Aside0.mk (hbox); have n3_ := Aside0.mk (Gbs_ hg); have n4_ := Aside0.mk (Gbs_ hg); have n5_ := Aside0.mk (nl_ BK163 hg); have n6_ := Aside0.mk (ng_ BK163 hg); clear BK163; clear HB; have BK163 := n0_; have HB := n1_; have BK164 := n2_; have GW164 := n3_; have GE164 := n4_; have NB163_164 := n5_; have NB164_163 := n6_; clear n0_ n1_ n2_ n3_ n4_ n5_ n6_; clear hb hbox hg) | ((with_reducible refine gate_dst (N := 4) rfl ?_); refine Gbox_event ?hg (N := 4) ?hd (cs := #[.int .i64 0, .int .i64 0]) (t := 24) ?hr ?_; (case hd => rfl); (case hg => rfl); (case hr => first | (go_simp; done) | (go_simp; rfl)); intro gb165 hg w5 hbox hb; have n0_ := Aside0.mk (Gbb_ BK163 hb); have n1_ := Aside0.mk (Gbb_ BK164 hb); have n2_ := Aside0.mk (Gbelow_step Gbel_ hb); have n3_ := Aside0.mk (hbox); have n4_ := Aside0.mk (Gbs_ hg); have n5_ := Aside0.mk (Gbs_ hg); have n6_ := Aside0.mk (nl_ BK163 hg); have n7_ := Aside0.mk (ng_ BK163 hg); have n8_ := Aside0.mk (nl_ BK164 hg); have n9_ := Aside0.mk (ng_ BK164 hg); clear BK163; clear BK164; clear HB; have BK163 := n0_; have BK164 := n1_; have HB := n2_; have BK165 := n3_; have GW165 := n4_; have GE165 := n5_; have NB163_165 := n6_; have NB165_163 := n7_; have NB164_165 := n8_; have NB165_164 := n9_; clear n0_ n1_ n2_ n3_ n4_ n5_ n6_ n7_ n8_ n9_; clear hb hbox hg; have hnb6 := NB163_164.out; have hnc6 := NB164_163.out; have hnb7 := NB163_165.out; have hnc7 := NB165_163.out; have hcz8_0 : w5.cell? ⟨gb163, 0, none⟩ = some (.int .i64 a0_0) := (blk_cell BK163.out 0).trans rfl; have hcz8_1 : w5.cell? ⟨gb163, 1, none⟩ = some (.int .i64 a0_1) := (blk_cell BK163.out 1).trans rfl; have hfz8_0 := blk_frozen BK163.out 0; have hfz8_1 := blk_frozen BK163.out 1; have hnb9 := NB164_165.out; have hnc9 := NB165_164.out; have hcz10_0 : w5.cell? ⟨gb164, 0, none⟩ = some (.int .i64 a1_0) := (blk_cell BK164.out 0).trans rfl; have hcz10_1 : w5.cell? ⟨gb164, 1, none⟩ = some (.int .i64 a1_1) := (blk_cell BK164.out 1).trans rfl; have hfz10_0 := blk_frozen BK164.out 0; have hfz10_1 := blk_frozen BK164.out 1; have hcz11_0 : w5.cell? ⟨gb165, 0, none⟩ = some (.int .i64 0) := (blk_cell BK165.out 0).trans rfl; have hcz11_1 : w5.cell? ⟨gb165, 1, none⟩ = some (.int .i64 0) := (blk_cell BK165.out 1).trans rfl; have hfz11_0 := blk_frozen BK165.out 0; have hfz11_1 := blk_frozen BK165.out 1))
  refine bodyPost_ret (results_cell_row rfl _ _ gb165 24 #[.int .i64 (Go.bits .andNot .i64 a0_0 a1_0), .int .i64 (Go.bits .andNot .i64 a0_1 a1_1)] (0, 0) _ rfl (by (with_reducible repeat (first | refine blk_drewN ?_ _ | refine blk_drew ?_ | refine blk_alloc ?_ _)); refine blk_put (cs := #[.int .i64 (Go.bits .andNot .i64 a0_0 a1_0), .int .i64 0]) ?_ 1 _ rfl; (with_reducible repeat (first | refine blk_drewN ?_ _ | refine blk_drew ?_ | refine blk_alloc ?_ _)); refine blk_put (cs := #[.int .i64 0, .int .i64 0]) ?_ 0 _ rfl; (with_reducible repeat (first | refine blk_drewN ?_ _ | refine blk_drew ?_ | refine blk_alloc ?_ _)); exact BK165.out) Try.underlying24 rfl (by kernel_rfl)) rfl ?_
  exact ⟨by first | rfl | (simp [errW_none, errW_some] <;> rfl) | (simp [*, errW_none, errW_some] <;> rfl), Gbel_⟩
set_option maxHeartbeats 8000000 in
set_option maxRecDepth 100000 in
theorem change_Within.gcalls (a0_0 : Int) (a0_1 : Int) (a1_0 : Int) (a1_1 : Int) (r : Bool) (w : World) (h : change_Within.f a0_0 a0_1 a1_0 a1_1 = some r) :
    Calls Try.prog 28 #[.agg #[.int .i64 a0_0, .int .i64 a0_1], .agg #[.int .i64 a1_0, .int .i64 a1_1]] w fun e w' => e = .returned (.bool r) ∧ GBelow w.heap.size w w' := by
  have hu24 := Try.underlying24
  have HB := Aside0.mk (GBelow.refl w.heap.size w)
  have H : ((change_Minus.f a0_0 a0_1 a1_0 a1_1).bind fun bt168 => (some (bt168.1 == 0 && (bt168.2 == 0)))) = some r := h
  clear h
  replace H := Option.bind_eq_some_iff.mp H
  obtain ⟨⟨t168, t169⟩, A30, H⟩ := H
  replace H : (some (t168 == 0 && (t169 == 0))) = some r := H
  have A3 := Aside0.mk A30
  clear A30
  obtain rfl := Option.some.inj H
  go_enter Try.func28, Try.ntmps28
  go_wp2_with (first | ((with_reducible refine gate_dst (N := 2) rfl ?_); refine Gbox_event ?hg (N := 2) ?hd (cs := #[.int .i64 a0_0, .int .i64 a0_1]) (t := 24) ?hr ?_; (case hd => rfl); (case hg => rfl); (case hr => first | (go_simp; done) | (go_simp; rfl)); intro gb166 hg w4 hbox hb; have n0_ := Aside0.mk (Gbelow_step Gbel_ hb); have n1_ := Aside0.mk (hbox); have n2_ := Aside0.mk (Gbs_ hg); have n3_ := Aside0.mk (Gbs_ hg); clear HB; have HB := n0_; have BK166 := n1_; have GW166 := n2_; have GE166 := n3_; clear n0_ n1_ n2_ n3_; clear hb hbox hg) | ((with_reducible refine gate_dst (N := 3) rfl ?_); refine Gbox_event ?hg (N := 3) ?hd (cs := #[.int .i64 a1_0, .int .i64 a1_1]) (t := 24) ?hr ?_; (case hd => rfl); (case hg => rfl); (case hr => first | (go_simp; done) | (go_simp; rfl)); intro gb167 hg w5 hbox hb; have n0_ := Aside0.mk (Gbb_ BK166 hb); have n1_ := Aside0.mk (Gbelow_step Gbel_ hb); have n2_ := Aside0.mk (hbox); have n3_ := Aside0.mk (Gbs_ hg); have n4_ := Aside0.mk (Gbs_ hg); have n5_ := Aside0.mk (nl_ BK166 hg); have n6_ := Aside0.mk (ng_ BK166 hg); clear BK166; clear HB; have BK166 := n0_; have HB := n1_; have BK167 := n2_; have GW167 := n3_; have GE167 := n4_; have NB166_167 := n5_; have NB167_166 := n6_; clear n0_ n1_ n2_ n3_ n4_ n5_ n6_; clear hb hbox hg; have hnb6 := NB166_167.out; have hnc6 := NB167_166.out; have hcz7_0 : w5.cell? ⟨gb166, 0, none⟩ = some (.int .i64 a0_0) := (blk_cell BK166.out 0).trans rfl; have hcz7_1 : w5.cell? ⟨gb166, 1, none⟩ = some (.int .i64 a0_1) := (blk_cell BK166.out 1).trans rfl; have hfz7_0 := blk_frozen BK166.out 0; have hfz7_1 := blk_frozen BK166.out 1; have hcz8_0 : w5.cell? ⟨gb167, 0, none⟩ = some (.int .i64 a1_0) := (blk_cell BK167.out 0).trans rfl; have hcz8_1 : w5.cell? ⟨gb167, 1, none⟩ = some (.int .i64 a1_1) := (blk_cell BK167.out 1).trans rfl; have hfz8_0 := blk_frozen BK167.out 0; have hfz8_1 := blk_frozen BK167.out 1) | ((with_reducible refine gate_callee (f := 45) rfl ?_); refine goL_ (some 7) Try.func45 #[.agg #[.int .i64 a0_0, .int .i64 a0_1], .agg #[.int .i64 a1_0, .int .i64 a1_1]] ?_; (with_reducible refine (change_Minus.gcalls a0_0 a0_1 a1_0 a1_1 t168 t169 _ A3.out).mono ?_); rintro e w9 ⟨rfl, hb⟩; refine ⟨_, rfl, ?_⟩; have n0_ := Aside0.mk (Gbb_ BK166 hb); have n1_ := Aside0.mk (Gbb_ BK167 hb); have n2_ := Aside0.mk (Gbelow_step Gbel_ hb); clear BK166; clear BK167; clear HB; have BK166 := n0_; have BK167 := n1_; have HB := n2_; clear n0_ n1_ n2_; (try clear hb); (try clear hb2); (try clear hk); (try clear hi)))
  go_ret
  exact ⟨by first | rfl | (simp [errW_none, errW_some] <;> rfl) | (simp [*, errW_none, errW_some] <;> rfl), Gbel_⟩
def hv_ren : Go.Shelf.Ren := ⟨fun | 6 => 55 | 15 => 64 | 14 => 63 | 28 => 75 | 29 => 76 | 20 => 67 | 21 => 68 | 22 => 69 | 23 => 70 | 24 => 71 | 25 => 72 | 26 => 73 | 27 => 74 | 46 => 79 | 47 => 80 | 48 => 81 | 49 => 82 | 50 => 83 | 57 => 84 | n => n, fun | 22 => 50 | 24 => 24 | 25 => 67 | 3 => 3 | 39 => 81 | 0 => 0 | 53 => 96 | 55 => 44 | 4 => 4 | 46 => 89 | 45 => 88 | 50 => 93 | 5 => 5 | 9 => 9 | 66 => 98 | 70 => 102 | 76 => 104 | 77 => 105 | n => n, fun n => n⟩
theorem hv_lay : SlLaysF0.n6 Try.prog hv_ren := {
  mixed := by kernel_rfl
  f6 := ⟨Try.f55.name, by decide, Try.func55.trans (congrArg some (by kernel_rfl))⟩
  f14 := ⟨Try.f63.name, by decide, Try.func63.trans (congrArg some (by kernel_rfl))⟩
  f15 := Try.func64.trans (congrArg some (by kernel_rfl))
  f20 := ⟨Try.f67.name, by decide, Try.func67.trans (congrArg some (by kernel_rfl))⟩
  f21 := ⟨Try.f68.name, by decide, Try.func68.trans (congrArg some (by kernel_rfl))⟩
  f22 := ⟨Try.f69.name, by decide, Try.func69.trans (congrArg some (by kernel_rfl))⟩
  f23 := ⟨Try.f70.name, by decide, Try.func70.trans (congrArg some (by kernel_rfl))⟩
  f24 := ⟨Try.f71.name, by decide, Try.func71.trans (congrArg some (by kernel_rfl))⟩
  f25 := ⟨Try.f72.name, by decide, Try.func72.trans (congrArg some (by kernel_rfl))⟩
  f26 := ⟨Try.f73.name, by decide, Try.func73.trans (congrArg some (by kernel_rfl))⟩
  f27 := ⟨Try.f74.name, by decide, Try.func74.trans (congrArg some (by kernel_rfl))⟩
  f28 := Try.func75.trans (congrArg some (by kernel_rfl))
  f29 := Try.func76.trans (congrArg some (by kernel_rfl))
  f46 := ⟨Try.f79.name, by decide, Try.func79.trans (congrArg some (by kernel_rfl))⟩
  f47 := Try.func80.trans (congrArg some (by kernel_rfl))
  f48 := Try.func81.trans (congrArg some (by kernel_rfl))
  f49 := ⟨Try.f82.name, by decide, Try.func82.trans (congrArg some (by kernel_rfl))⟩
  f50 := ⟨Try.f83.name, by decide, Try.func83.trans (congrArg some (by kernel_rfl))⟩
  f57 := ⟨Try.f84.name, by decide, Try.func84.trans (congrArg some (by kernel_rfl))⟩
  t0 := Try.underlying0
  a0 := Try.isAgg0
  z0 := Try.sizeOf0
  v0 := Try.zeroValue0
  t3 := Try.underlying3
  a3 := Try.isAgg3
  z3 := Try.sizeOf3
  v3 := Try.zeroValue3
  t4 := Try.underlying4
  a4 := Try.isAgg4
  z4 := Try.sizeOf4
  v4 := Try.zeroValue4
  t5 := Try.underlying5
  a5 := Try.isAgg5
  z5 := Try.sizeOf5
  v5 := Try.zeroValue5
  t9 := Try.underlying9
  a9 := Try.isAgg9
  z9 := Try.sizeOf9
  v9 := Try.zeroValue9
  t22 := Try.underlying50
  a22 := Try.isAgg50
  z22 := Try.sizeOf50
  v22 := Try.zeroValue50
  t25 := Try.underlying67
  a25 := Try.isAgg67
  z25 := Try.sizeOf67
  v25 := Try.zeroValue67
  t39 := Try.underlying81
  a39 := Try.isAgg81
  z39 := Try.sizeOf81
  v39 := Try.zeroValue81
  t45 := Try.underlying88
  a45 := Try.isAgg88
  z45 := Try.sizeOf88
  v45 := Try.zeroValue88
  t46 := Try.underlying89
  a46 := Try.isAgg89
  z46 := Try.sizeOf89
  v46 := Try.zeroValue89
  t50 := Try.underlying93
  a50 := Try.isAgg93
  z50 := Try.sizeOf93
  v50 := Try.zeroValue93
  t53 := Try.underlying96
  a53 := Try.isAgg96
  z53 := Try.sizeOf96
  v53 := Try.zeroValue96
  t55 := Try.underlying44
  a55 := Try.isAgg44
  z55 := Try.sizeOf44
  v55 := Try.zeroValue44
  t66 := Try.underlying98
  a66 := Try.isAgg98
  z66 := Try.sizeOf98
  v66 := Try.zeroValue98
  t70 := Try.underlying102
  a70 := Try.isAgg102
  z70 := Try.sizeOf102
  v70 := Try.zeroValue102
  t76 := Try.underlying104
  a76 := Try.isAgg104
  z76 := Try.sizeOf104
  v76 := Try.zeroValue104
  t77 := Try.underlying105
  a77 := Try.isAgg105
  z77 := Try.sizeOf105
  v77 := Try.zeroValue105 }
/-! view.Alike: what is sorted, and by what -/
theorem gb_grow {w w' : World} (h : GBelow w.heap.size w w') : ∃ q os, w' = Go.Sort.grow (w.drewN q) os := by
  obtain ⟨⟨h1, h2, h3, h4, h5⟩, hd⟩ := h
  refine ⟨w'.drawn - w.drawn, w'.heap.extract w.heap.size w'.heap.size, ?_⟩
  have hh : w'.heap = w.heap ++ w'.heap.extract w.heap.size w'.heap.size := by
    apply Array.ext_getElem?
    intro i
    by_cases hi : i < w.heap.size
    · rw [Array.getElem?_append_left hi, h5 i hi]
    · rw [Array.getElem?_append_right (by omega), Array.getElem?_extract]
      by_cases hj : i < w'.heap.size
      · rw [if_pos (by omega), show w.heap.size + (i - w.heap.size) = i by omega]
      · rw [if_neg (by omega), Array.getElem?_eq_none (by omega)]
  cases w'
  cases w
  simp only at h1 h2 h3 hd hh
  subst h1 h2 h3
  simp only [Go.Sort.grow, World.drewN]
  rw [← hh, Nat.add_sub_cancel' hd]
def hv_S (v : S24) : Int := (change_Size.f v.f0 v.f1).getD 0
def hv_N (v : S24) : Int := (change_Name.f v.f0 v.f1).getD 0
def hv_c (a b : Int) : Int := if a < b then -1 else if a > b then 1 else 0
def hv_cf (a b : S24) : Int := if hv_c (hv_S a) (hv_S b) = 0 then hv_c (hv_N a) (hv_N b) else hv_c (hv_S a) (hv_S b)
theorem hv_oc64 (a : Int) : ∃ r, bits_OnesCount64.f a = some r := ⟨_, rfl⟩
theorem hv_oc (a : Int) : ∃ r, bits_OnesCount.f a = some r := by
  obtain ⟨r, h⟩ := hv_oc64 a
  exact ⟨r, by unfold bits_OnesCount.f; rw [h]; rfl⟩
theorem hv_S_some (v : S24) : change_Size.f v.f0 v.f1 = some (hv_S v) := by
  obtain ⟨r, h⟩ := hv_oc (IntKind.u64.wrap v.f0)
  obtain ⟨q, k⟩ := hv_oc (IntKind.u64.wrap v.f1)
  have e : change_Size.f v.f0 v.f1 = some (wrap64 (r + q)) := by
    unfold change_Size.f
    rw [h, k]; rfl
  unfold hv_S
  rw [e]; rfl
theorem hv_N_some (v : S24) : change_Name.f v.f0 v.f1 = some (hv_N v) := rfl
theorem hv_c_some (a b : Int) : cmp_Compare_int.f a b = some (hv_c a b) := by
  unfold cmp_Compare_int.f cmp_isNaN_int.f hv_c
  (repeat' split) <;> simp_all
theorem hv_or (a b : Int) : cmp_Or_int.f 3 [a, b] = some (if a = 0 then b else a) := by
  have r0 : rd [a, b] 0 = a := rfl
  have r1 : rd [a, b] 1 = b := rfl
  have v0 : wrap64 (0 + 1) = 1 := by unfold wrap64; omega
  have v1 : wrap64 (1 + 1) = 2 := by unfold wrap64; omega
  show cmp_Or_int.l0 3 0 [a, b] 2 0 = _
  simp only [cmp_Or_int.l0, r0, v0, r1, v1]
  by_cases h : a = 0
  · by_cases k : b = 0
    · simp [h, k]
    · simp [h, k]
  · simp [h]
theorem hv_cmp (a b : S24) : view_compare.f 3 a.f0 a.f1 b.f0 b.f1 = some (hv_cf a b) := by
  unfold view_compare.f
  rw [hv_S_some, hv_S_some, Option.bind_some, Option.bind_some, hv_c_some, Option.bind_some, hv_N_some, hv_N_some, Option.bind_some, Option.bind_some, hv_c_some, Option.bind_some, hv_or]
  rfl
def hv_lt (a b : S24) : Bool := ltOf hv_cf a b
theorem hv_lt_iff (a b : S24) : hv_lt a b = true ↔ (hv_S a < hv_S b ∨ hv_S a = hv_S b ∧ hv_N a < hv_N b) := by
  unfold hv_lt ltOf hv_cf hv_c
  rw [decide_eq_true_iff]
  (repeat' split) <;> omega
theorem hv_swo : Go.Sort.SWO (ltOf hv_cf) where
  irrefl x := by
    cases h : ltOf hv_cf x x
    · rfl
    · have := (hv_lt_iff x x).1 h; omega
  trans x y z h k := by
    have h := (hv_lt_iff x y).1 h
    have k := (hv_lt_iff y z).1 k
    exact (hv_lt_iff x z).2 (by omega)
  ntrans x y z h k := by
    cases e : ltOf hv_cf x z
    · rfl
    · have h := mt (hv_lt_iff x y).2 (by rw [show hv_lt x y = false from h]; simp)
      have k := mt (hv_lt_iff y z).2 (by rw [show hv_lt y z = false from k]; simp)
      have e := (hv_lt_iff x z).1 e
      exfalso; omega
instance : Inhabited S24 := ⟨z24⟩
def hv_enc (v : S24) : List Value := [.int .i64 v.f0, .int .i64 v.f1]
def hv_p (v : S24) : Int × Int := (v.f0, v.f1)
theorem hv_gcmp (x y : S24) (w : World) : Calls Try.prog 48 #[.agg (hv_enc x).toArray, .agg (hv_enc y).toArray] w fun e w' => e = .returned (.int .i64 (hv_cf x y)) ∧ ∃ q os', w' = Go.Sort.grow (w.drewN q) os' :=
  (view_compare.gcalls 3 x.f0 x.f1 y.f0 y.f1 _ w (hv_cmp x y)).mono fun _ _ h => ⟨h.1, gb_grow h.2⟩
theorem hv_cmpLays (blk off size : Nat) (w : World) : CmpLays Try.prog 48 #[] hv_enc 2 hv_cf blk off size w := fun m os dk _ x y => hv_gcmp x y _
def hv_wi (x y : S24) : Bool := (change_Within.f x.f0 x.f1 y.f0 y.f1).getD false
theorem hv_wi_some (x y : S24) : change_Within.f x.f0 x.f1 y.f0 y.f1 = some (hv_wi x y) := rfl
theorem hv_gwi (x y : S24) (w : World) : Calls Try.prog 28 #[.agg #[.int .i64 x.f0, .int .i64 x.f1], .agg #[.int .i64 y.f0, .int .i64 y.f1]] w fun e w' => e = .returned (.bool (hv_wi x y)) ∧ ∃ q os', w' = Go.Sort.grow (w.drewN q) os' :=
  (change_Within.gcalls x.f0 x.f1 y.f0 y.f1 _ w (hv_wi_some x y)).mono fun _ _ h => ⟨h.1, gb_grow h.2⟩
/-- the slice holds the views d, in a block from 'base' on -/
def hv_Row (w : World) (base : Nat) (a : Option Addr) (n : Nat) (d : Array S24) : Prop :=
  n = d.size ∧ ((a = none ∧ n = 0) ∨ ∃ g, a = some ⟨g, 0, none⟩ ∧ base ≤ g ∧ g < w.heap.size ∧ Go.Sort.HoldsK hv_enc 2 w g 0 d)
def hv_pdq (d : Array S24) : Array S24 := Go.Sort.pdq (ltOf hv_cf) d 0 d.size (Lib.bitLen d.size) true true
theorem hv_pdq_size (d : Array S24) : (hv_pdq d).size = d.size := (Go.Sort.pdq_sorts (ltOf hv_cf) hv_swo d 0 d.size (Lib.bitLen d.size) true true (Nat.zero_le _) (Nat.le_refl _) (Or.inl rfl)).1.1
theorem hv_sw (w : World) (base blk off m : Nat) (d : Array S24) (os : Array Obj) (hb : base ≤ w.heap.size) (hg : base ≤ blk) : Below base w (sortWorldK hv_enc 2 w blk off m d os) := by
  refine ⟨rfl, rfl, rfl, ?_, fun k hk => ?_⟩
  · simp [sortWorldK, Go.Sort.grow, Go.Sort.putRowK, Go.Sort.putRow, Go.Sort.mapBlock, Go.Sort.ahead]
  · simp only [sortWorldK, Go.Sort.grow, Go.Sort.putRowK, Go.Sort.putRow, Go.Sort.mapBlock, Go.Sort.ahead]
    rw [Array.getElem?_append_left (by rw [Array.size_modify]; omega), Array.getElem?_modify, if_neg (by omega)]
theorem hv_sortfunc (w : World) (base : Nat) (a : Option Addr) (n cap : Nat) (d : Array S24) (h : hv_Row w base a n d) (hb : base ≤ w.heap.size) (hsz : d.size < 4611686018427387904) :
    Calls Try.prog 55 #[.slice a n cap, .func (.func 48) #[] #[]] w fun e w' => e = .returned (.tuple #[]) ∧ hv_Row w' base a n (hv_pdq d) ∧ Below base w w' := by
  obtain ⟨rfl, ⟨rfl, h0⟩ | ⟨g, rfl, hg, hlt, hH⟩⟩ := h
  · have hc := AnyF.slices_SortFunc_none (P := Try.prog) hv_lay none cap (.func (.func 48) #[] #[]) w
    rw [h0]
    refine hc.mono ?_
    rintro e w' ⟨rfl, rfl⟩
    exact ⟨rfl, ⟨by rw [hv_pdq_size]; exact h0.symm, .inl ⟨rfl, rfl⟩⟩, Below.refl _ _⟩
  · have hc := AnyQ.slices_SortFunc_eq hv_lay 2 Try.isAgg24 Try.sizeOf24 hv_enc (fun _ => rfl) (fun x v hv => by simp [hv_enc] at hv; rcases hv with rfl | rfl <;> rfl) hv_cf hv_swo 48 #[] g 0 cap d w (enters_of Try.func48 (by kernel_rfl) rfl) (hv_cmpLays g 0 d.size w) hH hlt hsz
    refine hc.mono ?_
    rintro e w' ⟨rfl, m, os, rfl⟩
    refine ⟨rfl, ⟨(hv_pdq_size d).symm, .inr ⟨g, rfl, hg, ?_, ?_⟩⟩, ?_⟩
    · have := (hv_sw w base g 0 m (hv_pdq d) os hb hg).size
      exact Nat.lt_of_lt_of_le hlt this
    · exact holdsK_sortWorldK_c hv_enc 2 w g 0 d (hv_pdq d) m os hH hlt (hv_pdq_size d)
    · exact hv_sw w base g 0 m (hv_pdq d) os hb hg
theorem hv_flat (l : List S24) : ∀ i c v, (l.map hv_p).flatMap (fun x => [Value.int .i64 x.1, Value.int .i64 x.2]) = c → l[i]? = some v → c[i * 2]? = some (.int .i64 v.f0) ∧ c[i * 2 + 1]? = some (.int .i64 v.f1) := by
  induction l with
  | nil => intro i c v hc h; simp at h
  | cons x l ih =>
    intro i c v hc h
    subst hc
    cases i with
    | zero => simp at h; subst h; exact ⟨rfl, rfl⟩
    | succ i =>
      have := ih i _ v rfl (by simpa using h)
      rw [show (i + 1) * 2 = i * 2 + 2 by omega]
      exact this
theorem hv_holds (w : World) (g : Nat) (l : List S24) (cur : Array Value) (hg : w.heap[g]? = some (.cells cur 24 (0, 0))) (hc : cur.toList.take (l.length * 2) = (l.map hv_p).flatMap (fun x => [Value.int .i64 x.1, Value.int .i64 x.2])) : Go.Sort.HoldsK hv_enc 2 w g 0 l.toArray := by
  intro j hj
  rw [Go.Sort.size_flatK] at hj
  have hj' : j < l.length * 2 := by simpa using hj
  have hi : j / 2 < l.length := by omega
  have hv : l[j / 2]? = some l[j / 2] := List.getElem?_eq_getElem hi
  have hf := hv_flat l (j / 2) _ _ rfl hv
  have e0 : (hv_enc l.toArray[j / 2]!)[j % 2]! = ((Go.Sort.flatK hv_enc 2 l.toArray)[j]!) := (Go.Sort.get_flatK _ _ _ _ hj).symm
  have e1 : l.toArray[j / 2]! = l[j / 2] := by rw [getElem!_pos l.toArray (j / 2) (by simpa using hi)]; simp
  have hcur : cur[j]? = some (Go.Sort.flatK hv_enc 2 l.toArray)[j]! := by
    have : cur[j]? = (cur.toList.take (l.length * 2))[j]? := by rw [List.getElem?_take, if_pos hj', Array.getElem?_toList]
    rw [this, hc, ← e0, e1]
    rcases Nat.mod_two_eq_zero_or_one j with h | h
    · have h1 := hf.1
      rw [show j / 2 * 2 = j by omega] at h1
      rw [h]; exact h1
    · have h1 := hf.2
      rw [show j / 2 * 2 + 1 = j by omega] at h1
      rw [h]; exact h1
  refine ⟨?_, ?_⟩
  · simp only [World.cell?, hg, Nat.zero_add]
    exact hcur
  · simp [World.frozen?, hg]
theorem hv_collect (l : List S24) (hl : l.length * 16 ≤ 140737488355328) (Bs : Nat) (sv : Value) (w : World) (hBs : Bs < w.heap.size) (hc : w.cell? ⟨Bs, 0, none⟩ = some sv) (hI : Views w.heap.size w sv (l.map hv_p)) :
    Calls Try.prog 54 #[.func (.func 56) #[] #[.pointer (some ⟨Bs, 0, none⟩)]] w fun e w' => ∃ a n cap, e = .returned (.slice a n cap) ∧ hv_Row w' w.heap.size a n l.toArray ∧ Below w.heap.size w w' := by
  have hap := callsIn_wide.1 (append_in 3 (Nat.le_refl _) Bs sv (l.map hv_p) (by unfold maxLen; simp; omega) (by simpa using hl) w hBs hc hI)
  clear hc hI
  go_enter Try.func54, Try.ntmps54
  go_wp2_with (go_at_call 62; refine hap.mono ?_; rintro e w1 ⟨v, rfl, hown, hb⟩)
  go_ret
  rcases hown.2 with ⟨rfl, h0⟩ | ⟨g, cap, cur, rfl, hgb, hcur, hle, hmax, hsz, htk⟩
  · exact ⟨none, 0, 0, rfl, ⟨by simpa using h0.symm, .inl ⟨rfl, rfl⟩⟩, hb⟩
  · refine ⟨_, _, _, rfl, ⟨by simp, .inr ⟨g, rfl, hgb, (Array.getElem?_eq_some_iff.1 hcur).1, hv_holds w1 g l cur hcur ?_⟩⟩, hb⟩
    rw [List.length_map] at htk
    exact htk
theorem hv_sortedfunc (l : List S24) (hl : l.length * 16 ≤ 140737488355328) (Bs : Nat) (sv : Value) (w : World) (hBs : Bs < w.heap.size) (hc : w.cell? ⟨Bs, 0, none⟩ = some sv) (hI : Views w.heap.size w sv (l.map hv_p)) :
    Calls Try.prog 46 #[.func (.func 56) #[] #[.pointer (some ⟨Bs, 0, none⟩)], .func (.func 48) #[] #[]] w fun e w' => ∃ a n cap, e = .returned (.slice a n cap) ∧ hv_Row w' w.heap.size a n (hv_pdq l.toArray) ∧ Below w.heap.size w w' := by
  have hcol := hv_collect l hl Bs sv w hBs hc hI
  clear hc hI
  go_enter Try.func46, Try.ntmps46
  go_wp2_with (first | (go_at_call 54; refine hcol.mono ?_; rintro e w1 ⟨a, n, cap, rfl, hrow, hb⟩) | (go_at_call 55; refine (hv_sortfunc w1 w.heap.size a n cap l.toArray hrow hb.size (by simp; omega)).mono ?_; rintro e w2 ⟨rfl, hrow2, hb2⟩))
  go_ret
  exact ⟨_, _, _, rfl, hrow2, hb.trans hb2⟩
/-- is of each two that follow one another one within the other? -/
def hv_adj (d : Array S24) : Bool := decide (∀ j, j < d.size → 1 ≤ j → hv_wi d[j - 1]! d[j]! = true)
theorem hv_grow (B : Nat) (w : World) (hB : B ≤ w.heap.size) (k : Nat) (os : Array Obj) : Below B w (Go.Sort.grow (w.drewN k) os) := by
  refine ⟨rfl, rfl, rfl, by simp [Go.Sort.grow, World.drewN], fun i hi => ?_⟩
  simp only [Go.Sort.grow, World.drewN]
  rw [Array.getElem?_append_left (by omega)]
theorem hv_cells (w : World) (g : Nat) (d : Array S24) (h : Go.Sort.HoldsK hv_enc 2 w g 0 d) (hlt : g < w.heap.size) (i : Nat) (hi : i < d.size) (n : Nat) (os : Array Obj) :
    (Go.Sort.grow (w.drewN n) os).cell? ⟨g, i * 2, none⟩ = some (.int .i64 d[i]!.f0) ∧ (Go.Sort.grow (w.drewN n) os).cell? ⟨g, i * 2 + 1, none⟩ = some (.int .i64 d[i]!.f1) := by
  have h0 := (h.cell hi (show 0 < 2 by omega)).1
  have h1 := (h.cell hi (show 1 < 2 by omega)).1
  rw [Nat.zero_add, Nat.add_zero] at h0
  rw [Nat.zero_add] at h1
  exact ⟨cell_grown hlt h0 n os, cell_grown hlt h1 n os⟩
set_option maxRecDepth 100000 in
set_option maxHeartbeats 4000000 in
theorem hv_alike (l : List S24) (hl : l.length * 16 ≤ 140737488355328) (A0 : Option Addr) (c0 : Nat) (w : World) (hI : Views w.heap.size w (.slice A0 l.length c0) (l.map hv_p)) :
    Calls Try.prog 29 #[.slice A0 l.length c0] w fun e w' => e = .returned (.bool (hv_adj (hv_pdq l.toArray))) ∧ Below w.heap.size w w' := by
  have hval := fun W => callsIn_wide.1 (values_in 3 A0 l.length c0 W)
  have hsf := fun (W : World) hBs hc hI => hv_sortedfunc l hl w.heap.size (.slice A0 l.length c0) W hBs hc hI
  have hI1 : Views (w.alloc (.cells #[.slice A0 l.length c0] 50)).heap.size (w.alloc (.cells #[.slice A0 l.length c0] 50)) (.slice A0 l.length c0) (l.map hv_p) := by
    have := hI.below (((Below.refl w.heap.size w).alloc (Nat.le_refl _) (.cells #[.slice A0 l.length c0] 50)))
    rcases this with h | ⟨b, off, cap, e, hb, h⟩
    · exact .inl h
    · exact .inr ⟨b, off, cap, e, by simp; omega, h⟩
  have hcB : (w.alloc (.cells #[.slice A0 l.length c0] 50)).cell? ⟨w.heap.size, 0, none⟩ = some (.slice A0 l.length c0) := (Boxed.new w 50 _).cell
  have hsf1 := hsf _ (by simp) hcB hI1
  have mixed : Try.prog.follows .mixedOrders = true := hv_lay.mixed
  generalize hdd : hv_pdq l.toArray = d at hsf1 ⊢
  clear hsf hI hI1 hcB
  go_enter Try.func29, Try.ntmps29
  go_wp2_with (first | (go_at_call 47; refine (hval _).mono ?_; rintro e w1 ⟨rfl, rfl⟩) | (go_at_call 46; refine hsf1.mono ?_; rintro e w2 ⟨a, n, cap, rfl, hrow, hb⟩))
  have hwb : Below w.heap.size w w2 := ((Below.refl _ w).alloc (Nat.le_refl _) (.cells #[.slice A0 l.length c0] 50)).trans (hb.mono (by simp))
  have hsz : d.size < 4611686018427387904 := by rw [← hdd, hv_pdq_size]; simp; omega
  obtain ⟨rfl, hform⟩ := hrow
  clear hsf1 hval hb hdd
  go_loopw [4] (fun i wr => ∃ k : Nat, (k + 1 ≤ d.size ∨ k = 0) ∧ i = .int .i64 ((k : Int) + 1) ∧ (∀ j, j ≤ k → j < d.size → 1 ≤ j → hv_wi d[j - 1]! d[j]! = true) ∧ ∃ m os, wr = Go.Sort.grow (w2.drewN m) os)
    (fun i _ => d.size - (intOf i).toNat)
  case atStart => exact ⟨0, Or.inr rfl, rfl, fun j h1 h2 h3 => absurd h1 (by omega), 0, #[], by simp [Go.Sort.grow, World.drewN]⟩
  case round =>
    obtain ⟨k, hk2, rfl, hall, m, os, hwr⟩ := hrel
    have hbr : Below w.heap.size w wr := by rw [hwr]; exact hwb.trans (hv_grow _ _ hwb.size m os)
    by_cases hlt : k + 1 < d.size
    · rcases hform with ⟨_, h0⟩ | ⟨g, rfl, hg, hgl, hH⟩
      · omega
      have hgr : g < wr.heap.size := by rw [hwr]; exact Nat.lt_of_lt_of_le hgl (hv_grow g w2 (Nat.le_of_lt hgl) m os).size
      have hHr : Go.Sort.HoldsK hv_enc 2 wr g 0 d := by rw [hwr]; exact Go.Sort.holdsK_grow hv_enc 2 _ _ _ _ _ hgl (Go.Sort.holdsK_ahead hv_enc 2 w2 m g 0 d hH)
      have hwrA : Hid (wr = Go.Sort.grow (w2.drewN m) os) := hwr
      clear hwr
      have hc1 := fun n os => (hv_cells wr g d hHr hgr k (by omega) n os).1
      have hc2 := fun n os => (hv_cells wr g d hHr hgr k (by omega) n os).2
      have hc3 := fun n os => (hv_cells wr g d hHr hgr (k + 1) (by omega) n os).1
      have hc4 := fun n os => (hv_cells wr g d hHr hgr (k + 1) (by omega) n os).2
      have hcl := fun n os => hv_gwi d[k]! d[k + 1]! (Go.Sort.grow (wr.drewN n) os)
      generalize hxv : hv_wi d[k]! d[k + 1]! = xv at hcl
      have hxvA : Hid (hv_wi d[k]! d[k + 1]! = xv) := hxv
      generalize d[k]! = x at hc1 hc2 hcl hxv
      generalize d[k + 1]! = y at hc3 hc4 hcl hxv
      clear hHr hH
      have rc1 : IntKind.i64.wrap (k : Int) = k := by rw [IntKind.wrap_i64]; omega
      have rc2 : IntKind.i64.wrap ((k : Int) + 1 + 1) = (k : Int) + 1 + 1 := by rw [IntKind.wrap_i64]; omega
      have hk1 : k < d.size := by omega
      have hk3 : (k : Int) + 1 < (d.size : Int) := by omega
      have hp3 : (0 : Int) ≤ (k : Int) + 1 := by omega
      have ht3 : ((k : Int) + 1).toNat = k + 1 := by omega
      go_wp2
      go_quiet_grown (exact Calls.grown_of (hcl _ _))
      have hgrow : Hid (Go.Sort.grow (wr.drewN nq) osq = Go.Sort.grow (w2.drewN (m + nq)) (os ++ osq)) := by
        show Go.Sort.grow (wr.drewN nq) osq = Go.Sort.grow (w2.drewN (m + nq)) (os ++ osq)
        rw [show wr = Go.Sort.grow (w2.drewN m) os from hwrA.out]
        show Go.Sort.grow (Go.Sort.grow ((w2.drewN m).drewN nq) os) osq = _
        rw [Go.Sort.grow_grow, World.drewN_drewN]
      have hbe : Below w.heap.size w (Go.Sort.grow (wr.drewN nq) osq) := hbr.trans (hv_grow _ _ hbr.size nq osq)
      clear hc1 hc2 hc3 hc4 hcl hxv
      cases xv with
      | true =>
        go_wp2
        go_roundw
        case rel =>
          refine ⟨k + 1, by omega, by simp, fun j h1 h2 h3 => ?_, m + nq, os ++ osq, hgrow.out⟩
          by_cases hj : j = k + 1
          · subst hj
            rw [Nat.add_sub_cancel]; exact hxvA.out
          · exact hall j (by omega) h2 h3
        case measure => simp [intOf]; omega
      | false =>
        have hadj : Hid (hv_adj d = false) := by
          show hv_adj d = false
          unfold hv_adj
          refine decide_eq_false fun h => ?_
          have h1 := h (k + 1) hlt (by omega)
          rw [Nat.add_sub_cancel, hxvA.out] at h1
          cases h1
        go_wp2
        go_ret
        exact ⟨by rw [hadj.out]; rfl, hbe⟩
    · have hadj : Hid (hv_adj d = true) := by
        show hv_adj d = true
        unfold hv_adj
        refine decide_eq_true fun j h1 h2 => ?_
        exact hall j (by omega) h1 h2
      have hk4 : ¬ ((k : Int) + 1 < (d.size : Int)) := by omega
      clear hwr
      go_wp2
      go_ret
      exact ⟨by rw [hadj.out]; rfl, hbr⟩
theorem hv_views (w : World) (A0 : Option Addr) (c0 : Nat) (l : List S24) (h : Kd.C k24 w A0 l.length l) : Views w.heap.size w (.slice A0 l.length c0) (l.map hv_p) := by
  by_cases h0 : l.length = 0
  · obtain rfl : l = [] := List.length_eq_zero_iff.1 h0
    exact .inl ⟨A0, c0, rfl, rfl⟩
  · obtain ⟨_, _, hc0⟩ := h
    obtain ⟨ad, rfl, hcc⟩ := hc0 (by omega)
    have hsp : ∀ j v, l[j]? = some v → w.cell? (ad.add (j * 2)) = some (.int .i64 v.f0) ∧ w.cell? (ad.add (j * 2 + 1)) = some (.int .i64 v.f1) := by
      intro j v hj
      obtain ⟨c, hcl, hK, hcv⟩ := hcc j v hj
      have hk : c = [.int .i64 v.f0, .int .i64 v.f1] := k24_open hK
      subst hk
      exact ⟨hcv 0 _ rfl, hcv 1 _ rfl⟩
    obtain ⟨b, off, sp⟩ := ad
    have h1 := (hsp 0 l[0] (List.getElem?_eq_getElem (by omega))).1
    have hs : sp = none := by
      cases sp with
      | none => rfl
      | some s =>
        simp [World.cell?, Addr.add] at h1
        split at h1 <;> cases h1
    subst hs
    have hadd : ∀ n, (⟨b, off, none⟩ : Addr).add n = ⟨b, off + n, none⟩ := fun n => by
      unfold Addr.add
      by_cases hn : n = 0
      · subst hn; rfl
      · rw [if_neg hn]
    refine .inr ⟨b, off, c0, by simp, ?_, fun j x hj => ?_⟩
    · rw [hadd] at h1
      exact block_lt_of_cell h1
    · rw [List.getElem?_map] at hj
      obtain ⟨v, hv, rfl⟩ := Option.map_eq_some_iff.1 hj
      have h2 := hsp j v hv
      rw [hadd, hadd] at h2
      exact h2
def view_Alike.f (l0 : List S24) : Option Bool := if l0.length < 8796093022208 then some (hv_adj (hv_pdq l0.toArray)) else none
theorem view_Alike.calls (A0 : Option Addr) (c0 : Nat) (l0 : List S24) (r : Bool) (w : World) (hr0 : Kd.C k24 w A0 l0.length l0) (hc0 : l0.length ≤ c0) (h : view_Alike.f l0 = some r) :
    Calls Try.prog 29 #[.slice A0 l0.length c0] w fun e w' => e = .returned (.bool r) ∧ Below w.heap.size w w' := by
  unfold view_Alike.f at h
  by_cases hl : l0.length < 8796093022208
  · rw [if_pos hl] at h
    obtain rfl := Option.some.inj h
    exact hv_alike l0 (by omega) A0 c0 w (hv_views w A0 c0 l0 hr0)
  · rw [if_neg hl] at h
    cases h
end

end Go.Proofs.Ytmenkbdaabjojaa.PPastSources
