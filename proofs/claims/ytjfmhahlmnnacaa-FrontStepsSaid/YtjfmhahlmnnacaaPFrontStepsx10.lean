/- Written by a program of this session (wip/tool/px.py) over the kit's print: what the code that the law FrontSteps reaches computes, function by function, and the law's row. -/
import Derived.Test.YtjfmhahlmnnacaaPFrontStepsx0
import Derived.Test.YtjfmhahlmnnacaaPFrontStepsx1
import Derived.Test.YtjfmhahlmnnacaaPFrontStepsx7
import Derived.Test.YtjfmhahlmnnacaaPFrontStepsx8
import Derived.Test.YtjfmhahlmnnacaaPFrontStepsx9
namespace Go.Proofs.Ytjfmhahlmnnacaa.PFrontSteps
open Go.RowKit Go.Proofs.YtjfmhahlmnnacaaX Go.Proofs.YtjfmhahlmnnacaaW.PrintWords Go.Proofs.YtjfmhahlmnnacaaW.PrintLast Go.Proofs.YtjfmhahlmnnacaaW.PrintMore
open List renaming setIfInBounds_toArray → zS, set_cons_zero → zZ, set_cons_succ → zC
open Go.Proofs.YtjfmhahlmnnacaaW.PrintWords renaming blk_drewN → zN, blk_drew → zD, blk_alloc → zA, blk_cell → zL, blk_frozen → zF, below_step → zB
open Go.Proofs.YtjfmhahlmnnacaaW.PrintWords.Aside0 renaming mk → zM
attribute [local go_sem] max2_int min2_int max_two min_two max_three min_three max_four min_four   -- for this text's walks alone
set_option linter.unusedVariables false
set_option linter.unusedSimpArgs false

attribute [local go_sem] px_nilq22
attribute [local go_sem high] eqA24
/-! ### ropewayref16_Step: function 16 -/
mutual
def ropewayref16_Step.l0 : Nat → List (S24) → List (S24) → List (S24) → Int → Int → List (S24) → Int → Int → Int → Int → Option ((List (S24)) × Int × Int)
  | 0, _, _, _, _, _, _, _, _, _, _ => none
  | k + 1, x2, x7, x19, x20, x21, x280000, x280001, x280002, x281000, x281001 => if x21 < x20 then (if 0 ≤ x21 then (if x21 < (x19.length : Int) then (if (!(((rd_T24 x19 x21).f0) == x281000) || (!(((rd_T24 x19 x21).f1) == x281001))) = true then (if x7.length < 8796093022208 then (ropewayref16_Step.l0 k x2 (x7 ++ [(⟨(rd_T24 x19 x21).f0, (rd_T24 x19 x21).f1⟩ : S24)]) x19 x20 (wrap64 (x21 + 1)) x280000 x280001 x280002 x281000 x281001) else (none)) else (ropewayref16_Step.l0 k x2 x7 x19 x20 (wrap64 (x21 + 1)) x280000 x280001 x280002 x281000 x281001)) else (none)) else (none)) else (ropewayref16_Step.l1 k x7 x2 (x2.length : Int) 0 x281000 x281001 x280001 x280002)
def ropewayref16_Step.l1 : Nat → List (S24) → List (S24) → Int → Int → Int → Int → Int → Int → Option ((List (S24)) × Int × Int)
  | 0, _, _, _, _, _, _, _, _ => none
  | k + 1, x7, x35, x36, x37, x281000, x281001, x291000, x291001 => if x37 < x36 then (if 0 ≤ x37 then (if x37 < (x35.length : Int) then ((ropewayref04_Join.f k (([(⟨x281000, x281001⟩ : S24), (⟨(rd_T24 x35 x37).f0, (rd_T24 x35 x37).f1⟩ : S24)] : List (S24)))).bind fun bt296 => (if x7.length < 8796093022208 then ((ropewayref04_Join.f k (([(⟨x291000, x291001⟩ : S24), (⟨(rd_T24 x35 x37).f0, (rd_T24 x35 x37).f1⟩ : S24)] : List (S24)))).bind fun bt304 => (ropewayref16_Step.l1 k (x7 ++ [(⟨bt296.1, bt296.2⟩ : S24)]) x35 x36 (wrap64 (x37 + 1)) x281000 x281001 bt304.1 bt304.2)) else (none))) else (none)) else (none)) else ((ropewayref16_sorted.f k x7).bind fun t306 => (some (t306, x291000, x291001)))
end
def ropewayref16_Step.f (k : Nat) (l0_0 : List (S24)) (a0_1 : Int) (a0_2 : Int) (a1_0 : Int) (a1_1 : Int) (l2 : List (S24)) : Option ((List (S24)) × Int × Int) := if (l2.length : Int) = 0 then (some (l0_0, a0_1, a0_2)) else (ropewayref16_Step.l0 k l2 (([] : List (S24))) l0_0 (l0_0.length : Int) 0 l0_0 a0_1 a0_2 a1_0 a1_1)
theorem ropewayref16_Step.mono_l : ∀ k, (∀ y0 y1 y2 y3 y4 y5 y6 y7 y8 y9, LeO (ropewayref16_Step.l0 k y0 y1 y2 y3 y4 y5 y6 y7 y8 y9) (ropewayref16_Step.l0 (k + 1) y0 y1 y2 y3 y4 y5 y6 y7 y8 y9)) ∧ (∀ y0 y1 y2 y3 y4 y5 y6 y7, LeO (ropewayref16_Step.l1 k y0 y1 y2 y3 y4 y5 y6 y7) (ropewayref16_Step.l1 (k + 1) y0 y1 y2 y3 y4 y5 y6 y7))
  | 0 => ⟨fun _ _ _ _ _ _ _ _ _ _ r h => by simp [ropewayref16_Step.l0] at h, fun _ _ _ _ _ _ _ _ r h => by simp [ropewayref16_Step.l1] at h⟩
  | k + 1 => by
    obtain ⟨ih0, ih1⟩ := ropewayref16_Step.mono_l k
    refine ⟨?_, ?_⟩
    · intro y0 y1 y2 y3 y4 y5 y6 y7 y8 y9
      unfold ropewayref16_Step.l0
      repeat' first
      | (with_reducible exact ih0 _ _ _ _ _ _ _ _ _ _)
      | (with_reducible exact ih1 _ _ _ _ _ _ _ _)
      | (with_reducible exact ropewayref04_Join.mono _ _)
      | (with_reducible exact ropewayref16_sorted.mono _ _)
      | (with_reducible exact LeO.refl _)
      | (with_reducible exact LeO.none _)
      | (with_reducible refine LeO.ite ?_ ?_)
      | (with_reducible refine LeO.bind ?_ (fun _ => ?_))
      | exact ih0 _ _ _ _ _ _ _ _ _ _
      | exact ih1 _ _ _ _ _ _ _ _
      | exact ropewayref04_Join.mono _ _
      | exact ropewayref16_sorted.mono _ _
      | exact LeO.none _
      | refine LeO.ite ?_ ?_
      | refine LeO.bind ?_ (fun _ => ?_)
    · intro y0 y1 y2 y3 y4 y5 y6 y7
      unfold ropewayref16_Step.l1
      repeat' first
      | (with_reducible exact ih0 _ _ _ _ _ _ _ _ _ _)
      | (with_reducible exact ih1 _ _ _ _ _ _ _ _)
      | (with_reducible exact ropewayref04_Join.mono _ _)
      | (with_reducible exact ropewayref16_sorted.mono _ _)
      | (with_reducible exact LeO.refl _)
      | (with_reducible exact LeO.none _)
      | (with_reducible refine LeO.ite ?_ ?_)
      | (with_reducible refine LeO.bind ?_ (fun _ => ?_))
      | exact ih0 _ _ _ _ _ _ _ _ _ _
      | exact ih1 _ _ _ _ _ _ _ _
      | exact ropewayref04_Join.mono _ _
      | exact ropewayref16_sorted.mono _ _
      | exact LeO.none _
      | refine LeO.ite ?_ ?_
      | refine LeO.bind ?_ (fun _ => ?_)
theorem ropewayref16_Step.mono : ∀ a0 a1 a2 a3 a4 a5 k, LeO (ropewayref16_Step.f k a0 a1 a2 a3 a4 a5) (ropewayref16_Step.f (k + 1) a0 a1 a2 a3 a4 a5) := by
  intro a0 a1 a2 a3 a4 a5 k
  obtain ⟨ih0, ih1⟩ := ropewayref16_Step.mono_l k
  unfold ropewayref16_Step.f
  repeat' first
      | (with_reducible exact ih0 _ _ _ _ _ _ _ _ _ _)
      | (with_reducible exact ih1 _ _ _ _ _ _ _ _)
      | (with_reducible exact ropewayref04_Join.mono _ _)
      | (with_reducible exact ropewayref16_sorted.mono _ _)
      | (with_reducible exact LeO.refl _)
      | (with_reducible exact LeO.none _)
      | (with_reducible refine LeO.ite ?_ ?_)
      | (with_reducible refine LeO.bind ?_ (fun _ => ?_))
      | exact ih0 _ _ _ _ _ _ _ _ _ _
      | exact ih1 _ _ _ _ _ _ _ _
      | exact ropewayref04_Join.mono _ _
      | exact ropewayref16_sorted.mono _ _
      | exact LeO.none _
      | refine LeO.ite ?_ ?_
      | refine LeO.bind ?_ (fun _ => ?_)
set_option maxHeartbeats 8000000 in
set_option maxRecDepth 100000 in
theorem ropewayref16_Step.calls (k : Nat) (P0_0_ : Nat → Prop) (u9000_ : Value) (l0_0 : List (S24)) (a0_1 : Int) (a0_2 : Int) (a1_0 : Int) (a1_1 : Int) (A2 : Option Addr) (c2 : Nat) (l2 : List (S24)) (r1 : List (S24)) (r2 : Int) (r3 : Int) (w0 w : World) (hB : Below w0.heap.size w0 w) (ho0_0 : Kd.R k24 24 w w0.heap.size P0_0_ u9000_ l0_0) (hr2 : ∀ W_, Kept w W_ (fun k_ => P0_0_ k_) → Kd.C k24 W_ A2 l2.length l2) (hc2 : l2.length ≤ c2) (h : ropewayref16_Step.f k l0_0 a0_1 a0_2 a1_0 a1_1 l2 = some (r1, r2, r3)) :
    Calls Try.prog 16 #[.agg #[u9000_, .int .i64 a0_1, .int .i64 a0_2], .agg #[.int .i64 a1_0, .int .i64 a1_1], .slice A2 l2.length c2] w fun e w' => ∃ v0_ : Value, e = .returned (.agg #[v0_, .int .i64 r2, .int .i64 r3]) ∧ Kd.R k24 24 w' w0.heap.size (fun k_ => (P0_0_ k_ ∨ w.heap.size ≤ k_)) v0_ r1 ∧ Below w0.heap.size w0 w' ∧ Kept w w' (fun k_ => P0_0_ k_) := by
  have hu34 := Try.underlying34
  have hu24 := Try.underlying24
  have HO0_0 := zM (show Kd.R k24 24 w w0.heap.size (fun k_ => (P0_0_ k_ ∨ w.heap.size ≤ k_)) u9000_ l0_0 from Kd.R_mono ho0_0 (fun k_ hk => (.inl hk)))
  have HR2 := zM hr2
  have HC2 := zM hc2
  clear hr2 hc2
  have HK := zM (Kept.refl w (fun k_ => P0_0_ k_))
  have HW0 := zM hB.size
  have HB := zM hB
  clear hB
  have H : (if (l2.length : Int) = 0 then (some (l0_0, a0_1, a0_2)) else (ropewayref16_Step.l0 k l2 (([] : List (S24))) l0_0 (l0_0.length : Int) 0 l0_0 a0_1 a0_2 a1_0 a1_1)) = some (r1, r2, r3) := h
  clear h
  by_cases c4 : (l2.length : Int) = 0
  · rw [if_pos c4] at H
    have c4b0 : ((l2.length : Int) == 0) = true := beq_iff_eq.mpr c4
    have c4b1 : ((l2.length : Int) != 0) = false := bne_eq_false_iff_eq.mpr c4
    clear c4
    simp only [Option.some.injEq, Prod.mk.injEq] at H
    obtain ⟨rfl, rfl, rfl⟩ := H
    obtain ⟨Ao5, co5, eo5⟩ := Kd.R_slice HO0_0.out
    subst eo5
    go_enter Try.func16, Try.ntmps16
    go_wp2_with (first | ((with_reducible refine gate_dst (N := 3) rfl ?_); refine box_event ?hg (N := 3) ?hd (cs := #[.slice Ao5 l0_0.length co5, .int .i64 a0_1, .int .i64 a0_2]) (t := 34) ?hr ?_; (case hd => rfl); (case hg => rfl); (case hr => first | (go_simp; done) | (go_simp; rfl)); intro gb279 hg w6 hbox hb; replace HO0_0 := zM (Kd.R_below (rl_ HO0_0) hb); have BK279 := zM (hbox); have GW279 := zM ((by rw [hg]; exact (by first | exact HK.out.1 | exact (show Kept w _ (fun k_ => P0_0_ k_) from by repeat (first | (with_reducible first | exact HK.out | apply Kept.alloc | apply Kept.drewN | apply Kept.drew) | exact HK.out)).1) : w.heap.size ≤ gb279)); replace HK := zM (Kept.below (S := (fun k_ => P0_0_ k_)) (by repeat (first | (with_reducible first | exact HK.out | apply Kept.alloc | apply Kept.drewN | apply Kept.drew) | exact HK.out)) hb); have GE279 := zM ((by rw [hg]; exact (below_size bel_) : w0.heap.size ≤ gb279)); replace HB := zM (zB bel_ hb); clear hb hbox hg) | ((with_reducible refine gate_dst (N := 4) rfl ?_); refine box_event ?hg (N := 4) ?hd (cs := #[.int .i64 a1_0, .int .i64 a1_1]) (t := 24) ?hr ?_; (case hd => rfl); (case hg => rfl); (case hr => first | (go_simp; done) | (go_simp; rfl)); intro gb280 hg w7 hbox hb; replace HO0_0 := zM (Kd.R_below (Kd.R_elderB (rl_ HO0_0) gb280 (Nat.le_of_eq hg.symm)) hb); have BK280 := zM (hbox); have GW280 := zM ((by rw [hg]; exact (by first | exact HK.out.1 | exact (show Kept w _ (fun k_ => P0_0_ k_) from by repeat (first | (with_reducible first | exact HK.out | apply Kept.alloc | apply Kept.drewN | apply Kept.drew | refine Kept.setCell ?_ (.inr GW279.out) _) | exact HK.out)).1) : w.heap.size ≤ gb280)); replace HK := zM (Kept.below (S := (fun k_ => P0_0_ k_)) (by repeat (first | (with_reducible first | exact HK.out | apply Kept.alloc | apply Kept.drewN | apply Kept.drew | refine Kept.setCell ?_ (.inr GW279.out) _) | exact HK.out)) hb); have GE280 := zM ((by rw [hg]; exact (below_size bel_) : w0.heap.size ≤ gb280)); replace HB := zM (zB bel_ hb); have NB279_280 := zM (nl_ BK279 hg); have NB280_279 := zM (ng_ BK279 hg); replace BK279 := zM (bb_ BK279 hb); clear hb hbox hg) | ((with_reducible refine gate_dst (N := 6) rfl ?_); refine box_event ?hg (N := 6) ?hd (cs := #[.slice none 0 0, .int .i64 0, .int .i64 0]) (t := 34) ?hr ?_; (case hd => rfl); (case hg => rfl); (case hr => first | (go_simp; done) | (go_simp; rfl)); intro gb281 hg w8 hbox hb; replace HO0_0 := zM (Kd.R_below (rl_ HO0_0) hb); have BK281 := zM (hbox); have GW281 := zM ((by rw [hg]; exact (by first | exact HK.out.1 | exact (show Kept w _ (fun k_ => P0_0_ k_) from by repeat (first | (with_reducible first | exact HK.out | apply Kept.alloc | apply Kept.drewN | apply Kept.drew | refine Kept.setCell ?_ (.inr GW279.out) _ | refine Kept.setCell ?_ (.inr GW280.out) _) | exact HK.out)).1) : w.heap.size ≤ gb281)); replace HK := zM (Kept.below (S := (fun k_ => P0_0_ k_)) (by repeat (first | (with_reducible first | exact HK.out | apply Kept.alloc | apply Kept.drewN | apply Kept.drew | refine Kept.setCell ?_ (.inr GW279.out) _ | refine Kept.setCell ?_ (.inr GW280.out) _) | exact HK.out)) hb); have GE281 := zM ((by rw [hg]; exact (below_size bel_) : w0.heap.size ≤ gb281)); replace HB := zM (zB bel_ hb); have NB279_281 := zM (nl_ BK279 hg); have NB281_279 := zM (ng_ BK279 hg); replace BK279 := zM (bb_ BK279 hb); have NB280_281 := zM (nl_ BK280 hg); have NB281_280 := zM (ng_ BK280 hg); replace BK280 := zM (bb_ BK280 hb); clear hb hbox hg; have hnb9 := NB279_280.out; have hnc9 := NB280_279.out; have hnb10 := NB279_281.out; have hnc10 := NB281_279.out; have hcz11_0 : w8.cell? ⟨gb279, 0, none⟩ = some (.slice Ao5 l0_0.length co5) := (zL BK279.out 0).trans rfl; have hcz11_1 : w8.cell? ⟨gb279, 1, none⟩ = some (.int .i64 a0_1) := (zL BK279.out 1).trans rfl; have hcz11_2 : w8.cell? ⟨gb279, 2, none⟩ = some (.int .i64 a0_2) := (zL BK279.out 2).trans rfl; have hfz11_0 := zF BK279.out 0; have hfz11_1 := zF BK279.out 1; have hfz11_2 := zF BK279.out 2; have hnb12 := NB281_280.out; have hnc12 := NB280_281.out; have hcz13_0 : w8.cell? ⟨gb281, 0, none⟩ = some (.slice none 0 0) := (zL BK281.out 0).trans rfl; have hcz13_1 : w8.cell? ⟨gb281, 1, none⟩ = some (.int .i64 0) := (zL BK281.out 1).trans rfl; have hcz13_2 : w8.cell? ⟨gb281, 2, none⟩ = some (.int .i64 0) := (zL BK281.out 2).trans rfl; have hfz13_0 := zF BK281.out 0; have hfz13_1 := zF BK281.out 1; have hfz13_2 := zF BK281.out 2))
    refine bodyPost_ret (results_cell_row rfl _ _ gb281 34 #[.slice Ao5 l0_0.length co5, .int .i64 a0_1, .int .i64 a0_2] (0, 0) _ rfl (by (with_reducible repeat (first | refine zN ?_ _ | refine zD ?_ | refine zA ?_ _)); refine blk_put (cs := #[.slice Ao5 l0_0.length co5, .int .i64 a0_1, .int .i64 0]) ?_ 2 _ rfl; (with_reducible repeat (first | refine zN ?_ _ | refine zD ?_ | refine zA ?_ _)); refine blk_put (cs := #[.slice Ao5 l0_0.length co5, .int .i64 0, .int .i64 0]) ?_ 1 _ rfl; (with_reducible repeat (first | refine zN ?_ _ | refine zD ?_ | refine zA ?_ _)); refine blk_put (cs := #[.slice none 0 0, .int .i64 0, .int .i64 0]) ?_ 0 _ rfl; (with_reducible repeat (first | refine zN ?_ _ | refine zD ?_ | refine zA ?_ _)); exact BK281.out) Try.underlying34 rfl (by kernel_rfl)) rfl ?_
    exact ⟨_, by first | rfl | (simp [errW_none, errW_some] <;> rfl) | (simp [*, errW_none, errW_some] <;> rfl), by (with_reducible repeat (first | apply Kd.R_alloc | apply Kd.R_drewN | apply Kd.R_drew)); exact Kd.R_mono (Kd.R_far (p := ⟨gb281, 2, none⟩) (Kd.R_far (p := ⟨gb281, 1, none⟩) (Kd.R_far (p := ⟨gb281, 0, none⟩) (Kd.R_types HO0_0.out BK281.out (by decide)) (fun _ hk => hk.2) (.slice Ao5 l0_0.length co5)) (fun _ hk => hk.2) (.int .i64 a0_1)) (fun _ hk => hk.2) (.int .i64 a0_2)) (fun _ hk => hk.1.1), by repeat (first | (with_reducible first | exact HB.out | apply below_alloc | apply pw_below_drewN | apply below_drew1 | refine below_set ?_ GE279.out | refine below_set ?_ GE280.out | refine below_set ?_ GE281.out) | exact HB.out), by repeat (first | (with_reducible first | exact HK.out | apply Kept.alloc | apply Kept.drewN | apply Kept.drew | refine Kept.setCell ?_ (.inr GW279.out) _ | refine Kept.setCell ?_ (.inr GW280.out) _ | refine Kept.setCell ?_ (.inr GW281.out) _) | exact HK.out)⟩
  rw [if_neg c4] at H
  have c4b0 : ((l2.length : Int) == 0) = false := beq_eq_false_iff_ne.mpr c4
  have c4b1 : ((l2.length : Int) != 0) = true := bne_iff_ne.mpr c4
  have c4b2 : ¬ (l2 = []) := fun h_ => c4 (by rw [h_]; rfl)
  obtain ⟨y282, hy282⟩ : ∃ y_ : List (S24), y_ = (([] : List (S24))) := ⟨_, rfl⟩
  replace H : (ropewayref16_Step.l0 k l2 y282 l0_0 (l0_0.length : Int) 0 l0_0 a0_1 a0_2 a1_0 a1_1) = some (r1, r2, r3) := by first | (rw [hy282]; with_reducible exact H) | (have H2_ := (Option.bind_some _ _).symm.trans H; rw [hy282]; with_reducible exact H2_) | (have H2_ := (Option.bind_some _ _).symm.trans H; with_reducible exact H2_) | with_reducible exact H | (rw [hy282]; exact H) | exact H
  have Ny282 := zM hy282
  clear hy282
  have H' := zM H
  clear H
  obtain ⟨Ao14, co14, eo14⟩ := Kd.R_slice HO0_0.out
  subst eo14
  go_enter Try.func16, Try.ntmps16
  go_wp2_with (first | ((with_reducible refine gate_dst (N := 3) rfl ?_); refine box_event ?hg (N := 3) ?hd (cs := #[.slice Ao14 l0_0.length co14, .int .i64 a0_1, .int .i64 a0_2]) (t := 34) ?hr ?_; (case hd => rfl); (case hg => rfl); (case hr => first | (go_simp; done) | (go_simp; rfl)); intro gb279 hg w15 hbox hb; replace HO0_0 := zM (Kd.R_below (rl_ HO0_0) hb); have BK279 := zM (hbox); have GW279 := zM ((by rw [hg]; exact (by first | exact HK.out.1 | exact (show Kept w _ (fun k_ => P0_0_ k_) from by repeat (first | (with_reducible first | exact HK.out | apply Kept.alloc | apply Kept.drewN | apply Kept.drew) | exact HK.out)).1) : w.heap.size ≤ gb279)); replace HK := zM (Kept.below (S := (fun k_ => P0_0_ k_)) (by repeat (first | (with_reducible first | exact HK.out | apply Kept.alloc | apply Kept.drewN | apply Kept.drew) | exact HK.out)) hb); have GE279 := zM ((by rw [hg]; exact (below_size bel_) : w0.heap.size ≤ gb279)); replace HB := zM (zB bel_ hb); clear hb hbox hg) | ((with_reducible refine gate_dst (N := 4) rfl ?_); refine box_event ?hg (N := 4) ?hd (cs := #[.int .i64 a1_0, .int .i64 a1_1]) (t := 24) ?hr ?_; (case hd => rfl); (case hg => rfl); (case hr => first | (go_simp; done) | (go_simp; rfl)); intro gb280 hg w16 hbox hb; replace HO0_0 := zM (Kd.R_below (Kd.R_elderB (rl_ HO0_0) gb280 (Nat.le_of_eq hg.symm)) hb); have BK280 := zM (hbox); have GW280 := zM ((by rw [hg]; exact (by first | exact HK.out.1 | exact (show Kept w _ (fun k_ => P0_0_ k_) from by repeat (first | (with_reducible first | exact HK.out | apply Kept.alloc | apply Kept.drewN | apply Kept.drew | refine Kept.setCell ?_ (.inr GW279.out) _) | exact HK.out)).1) : w.heap.size ≤ gb280)); replace HK := zM (Kept.below (S := (fun k_ => P0_0_ k_)) (by repeat (first | (with_reducible first | exact HK.out | apply Kept.alloc | apply Kept.drewN | apply Kept.drew | refine Kept.setCell ?_ (.inr GW279.out) _) | exact HK.out)) hb); have GE280 := zM ((by rw [hg]; exact (below_size bel_) : w0.heap.size ≤ gb280)); replace HB := zM (zB bel_ hb); have NB279_280 := zM (nl_ BK279 hg); have NB280_279 := zM (ng_ BK279 hg); replace BK279 := zM (bb_ BK279 hb); clear hb hbox hg) | ((with_reducible refine gate_dst (N := 6) rfl ?_); refine box_event ?hg (N := 6) ?hd (cs := #[.slice none 0 0, .int .i64 0, .int .i64 0]) (t := 34) ?hr ?_; (case hd => rfl); (case hg => rfl); (case hr => first | (go_simp; done) | (go_simp; rfl)); intro gb281 hg w17 hbox hb; replace HO0_0 := zM (Kd.R_below (rl_ HO0_0) hb); have BK281 := zM (hbox); have GW281 := zM ((by rw [hg]; exact (by first | exact HK.out.1 | exact (show Kept w _ (fun k_ => P0_0_ k_) from by repeat (first | (with_reducible first | exact HK.out | apply Kept.alloc | apply Kept.drewN | apply Kept.drew | refine Kept.setCell ?_ (.inr GW279.out) _ | refine Kept.setCell ?_ (.inr GW280.out) _) | exact HK.out)).1) : w.heap.size ≤ gb281)); replace HK := zM (Kept.below (S := (fun k_ => P0_0_ k_)) (by repeat (first | (with_reducible first | exact HK.out | apply Kept.alloc | apply Kept.drewN | apply Kept.drew | refine Kept.setCell ?_ (.inr GW279.out) _ | refine Kept.setCell ?_ (.inr GW280.out) _) | exact HK.out)) hb); have GE281 := zM ((by rw [hg]; exact (below_size bel_) : w0.heap.size ≤ gb281)); replace HB := zM (zB bel_ hb); have NB279_281 := zM (nl_ BK279 hg); have NB281_279 := zM (ng_ BK279 hg); replace BK279 := zM (bb_ BK279 hb); have NB280_281 := zM (nl_ BK280 hg); have NB281_280 := zM (ng_ BK280 hg); replace BK280 := zM (bb_ BK280 hb); clear hb hbox hg) | ((with_reducible refine gate_dst (N := 17) rfl ?_); refine Kd.R_lit k24 _ 24 ?hg (N := 17) ?hd (xs := ([] : List (S24))) (inner := []) (ok := fun _ => True) (okp := fun _ => True) ?hr ?hp (fun _ hk => hk) trivial (Below.refl _ _) (Nat.le_refl _) (by simp) ?_; (case hd => rfl); (case hg => rfl); (case hr => first | (go_simp; done) | (go_simp; rfl)); (case hp => exact (Reps.none _ _)); intro v283 w18 ho19 hb hg_ hnew_; clear hg_ hnew_; (first | rw [← Ny282.out] at ho19 | (simp only [Int.reduceToNat] at ho19; rw [← Ny282.out] at ho19)); have HO284 := zM (Kd.R_lower (Kd.R_newB (Kd.R_new' (Kd.R_newM (M := fun k_ => (P0_0_ k_ ∨ w.heap.size ≤ k_)) ho19 (by first | exact HK.out.1 | exact (show Kept w _ (fun k_ => P0_0_ k_) from by repeat (first | (with_reducible first | exact HK.out | apply Kept.alloc | apply Kept.drewN | apply Kept.drew | refine Kept.setCell ?_ (.inr GW279.out) _ | refine Kept.setCell ?_ (.inr GW280.out) _ | refine Kept.setCell ?_ (.inr GW281.out) _) | exact HK.out)).1) (fun k_ h_ => .inr h_)) (Kd.R_lt (rl_ HO0_0))) (g := gb280) (o := .cells #[.int .i64 a1_0, .int .i64 a1_1] 24 (0, 0)) blk_) (below_size bel_)); replace HO0_0 := zM (Kd.R_elder' (rl_ HO0_0) (Kd.R_base ho19) hb); replace BK279 := zM (bb_ BK279 hb); replace BK280 := zM (bb_ BK280 hb); replace BK281 := zM (bb_ BK281 hb); replace HK := zM (Kept.below (S := (fun k_ => P0_0_ k_)) (by repeat (first | (with_reducible first | exact HK.out | apply Kept.alloc | apply Kept.drewN | apply Kept.drew | refine Kept.setCell ?_ (.inr GW279.out) _ | refine Kept.setCell ?_ (.inr GW280.out) _ | refine Kept.setCell ?_ (.inr GW281.out) _) | exact HK.out)) hb); replace HB := zM (zB bel_ hb); clear hb ho19; have hnb20 := NB279_280.out; have hnc20 := NB280_279.out; have hnb21 := NB279_281.out; have hnc21 := NB281_279.out; have hcz22_0 : w18.cell? ⟨gb279, 0, none⟩ = some (.slice Ao14 l0_0.length co14) := (zL BK279.out 0).trans rfl; have hcz22_1 : w18.cell? ⟨gb279, 1, none⟩ = some (.int .i64 a0_1) := (zL BK279.out 1).trans rfl; have hcz22_2 : w18.cell? ⟨gb279, 2, none⟩ = some (.int .i64 a0_2) := (zL BK279.out 2).trans rfl; have hfz22_0 := zF BK279.out 0; have hfz22_1 := zF BK279.out 1; have hfz22_2 := zF BK279.out 2))
  go_loopg [7, 21] k (fun kq v7 v21 w' => ∃ (x7_1 : List (S24)) (x21_1 : Int), v21 = .int .i64 x21_1 ∧ Aside0 (ropewayref16_Step.l0 kq l2 x7_1 l0_0 (l0_0.length : Int) x21_1 l0_0 a0_1 a0_2 a1_0 a1_1 = some (r1, r2, r3)) ∧ Aside0 (kq ≤ k) ∧ Aside0 (Kd.R k24 24 w' w0.heap.size (fun k_ => (P0_0_ k_ ∨ w.heap.size ≤ k_) ∧ some k_ ≠ ((.slice Ao14 l0_0.length co14) : Value).ownBlock ∧ some k_ ≠ ((.slice Ao14 l0_0.length co14) : Value).ownBlock ∧ k_ ≠ gb280) v7 x7_1) ∧ Aside0 (Kd.R k24 24 w' w0.heap.size (fun k_ => (P0_0_ k_ ∨ w.heap.size ≤ k_) ∧ some k_ ≠ (v7 : Value).ownBlock ∧ k_ ≠ gb280) (.slice Ao14 l0_0.length co14) l0_0) ∧ Aside0 (Kd.R k24 24 w' w0.heap.size (fun k_ => (P0_0_ k_ ∨ w.heap.size ≤ k_) ∧ some k_ ≠ (v7 : Value).ownBlock ∧ k_ ≠ gb280) (.slice Ao14 l0_0.length co14) l0_0) ∧ Aside0 (w'.heap[gb279]? = some (.cells #[(.slice Ao14 l0_0.length co14), .int .i64 a0_1, .int .i64 a0_2] 34 (0, 0))) ∧ Aside0 (w'.heap[gb280]? = some (.cells #[.int .i64 a1_0, .int .i64 a1_1] 24 (0, 0))) ∧ Aside0 (w'.heap[gb281]? = some (.cells #[(.slice none 0 0), .int .i64 0, .int .i64 0] 34 (0, 0))) ∧ Aside0 (Kept w w' (fun k_ => P0_0_ k_)) ∧ Aside0 (Below w0.heap.size w0 w'))
  case atStart => exact ⟨(y282), (0), (by first | rfl | (simp; done) | (simp [*]; done) | (simp; grind)), H', ⟨Nat.le_refl _⟩, ⟨by (with_reducible repeat (first | apply Kd.R_alloc | apply Kd.R_drewN | apply Kd.R_drew)); exact Kd.R_mono HO284.out (fun _ hk => ⟨hk.1.1.1, ⟨hk.1.2, ⟨hk.1.2, hk.2⟩⟩⟩)⟩, ⟨by (with_reducible repeat (first | apply Kd.R_alloc | apply Kd.R_drewN | apply Kd.R_drew)); exact Kd.R_mono HO0_0.out (fun _ hk => ⟨hk.1.1, ⟨hk.2, hk.1.2⟩⟩)⟩, ⟨by (with_reducible repeat (first | apply Kd.R_alloc | apply Kd.R_drewN | apply Kd.R_drew)); exact Kd.R_mono HO0_0.out (fun _ hk => ⟨hk.1.1, ⟨hk.2, hk.1.2⟩⟩)⟩, ⟨blf_⟩, ⟨blf_⟩, ⟨blf_⟩, ⟨by repeat (first | (with_reducible first | exact HK.out | apply Kept.alloc | apply Kept.drewN | apply Kept.drew | refine Kept.setCell ?_ (.inr GW279.out) _ | refine Kept.setCell ?_ (.inr GW280.out) _ | refine Kept.setCell ?_ (.inr GW281.out) _) | exact HK.out)⟩, ⟨bel_⟩⟩
  case round =>
   clear H'
   try clear c1
   try clear c2
   try clear p2
   try clear c4
   try clear c4b0
   try clear c4b1
   try clear c4b2
   try clear c9
   try clear c10
   try clear c12
   try clear c16
   try clear c20
   try clear c21
   try clear hcz11_0
   try clear hcz11_1
   try clear hcz11_2
   try clear hcz13_0
   try clear hcz13_1
   try clear hcz13_2
   try clear hcz22_0
   try clear hcz22_1
   try clear hcz22_2
   try clear hfz11_0
   try clear hfz11_1
   try clear hfz11_2
   try clear hfz13_0
   try clear hfz13_1
   try clear hfz13_2
   try clear hfz22_0
   try clear hfz22_1
   try clear hfz22_2
   obtain ⟨x7_1, x21_1, rfl, HA, HK1, HO_7, HO_19, HO_280000, BK279, BK280, BK281, HK, HB⟩ := hrel
   cases gk with
   | zero => exact absurd HA.out (by simp [ropewayref16_Step.l0])
   | succ k1 =>
    have H := HA.out
    clear HA
    simp only [ropewayref16_Step.l0] at H
    by_cases c23 : x21_1 < (l0_0.length : Int)
    · rw [if_pos c23] at H
      have c23b0 : decide (x21_1 < (l0_0.length : Int)) = true := decide_eq_true c23
      clear c23
      by_cases c24 : 0 ≤ x21_1
      rotate_left
      · rw [if_neg c24] at H
        exact absurd H (by simp)
      rw [if_pos c24] at H
      have c24b0 : decide (0 ≤ x21_1) = true := decide_eq_true c24
      clear c24
      by_cases c25 : x21_1 < (l0_0.length : Int)
      rotate_left
      · rw [if_neg c25] at H
        exact absurd H (by simp)
      rw [if_pos c25] at H
      have c25b0 : decide (x21_1 < (l0_0.length : Int)) = true := decide_eq_true c25
      clear c25
      by_cases c26 : (!(((rd_T24 l0_0 x21_1).f0) == a1_0) || (!(((rd_T24 l0_0 x21_1).f1) == a1_1))) = true
      rotate_left
      · rw [if_neg c26] at H
        have c26b0 : (!(((rd_T24 l0_0 x21_1).f0) == a1_0) || (!(((rd_T24 l0_0 x21_1).f1) == a1_1))) = false := by simpa using c26
        clear c26
        have H' := zM H
        clear H
        have p285 : 0 ≤ (x21_1 : Int) := of_decide_eq_true (by first | (with_reducible assumption) | assumption)
        have q285 : x21_1 < (l0_0.length : Int) := of_decide_eq_true (by first | (with_reducible assumption) | assumption)
        obtain ⟨ad285, e285, hx285_0, hx285_1⟩ := at_T24 (Kd.R_reads' HO_19.out).2.2 x21_1 p285 q285
        cases e285
        replace p285 := eq_true p285
        replace q285 := eq_true q285
        go_wp2_with (first | ((with_reducible refine gate_dst (N := 9) rfl ?_); refine box_event ?hg (N := 9) ?hd (cs := #[.int .i64 0, .int .i64 0]) (t := 24) ?hr ?_; (case hd => rfl); (case hg => rfl); (case hr => first | (go_simp; done) | (go_simp; rfl)); intro gb286 hg w37 hbox hb; replace HO_7 := zM (Kd.R_below (Kd.R_elderB (rl_ HO_7) gb286 (Nat.le_of_eq hg.symm)) hb); replace HO_19 := zM (Kd.R_below (Kd.R_elderB (rl_ HO_19) gb286 (Nat.le_of_eq hg.symm)) hb); replace HO_280000 := zM (Kd.R_below (Kd.R_elderB (rl_ HO_280000) gb286 (Nat.le_of_eq hg.symm)) hb); have BK286 := zM (hbox); have GW286 := zM ((by rw [hg]; exact (by first | exact HK.out.1 | exact (show Kept w _ (fun k_ => P0_0_ k_) from by repeat (first | (with_reducible first | exact HK.out | apply Kept.alloc | apply Kept.drewN | apply Kept.drew | refine Kept.setCell ?_ (.inr GW279.out) _ | refine Kept.setCell ?_ (.inr GW280.out) _ | refine Kept.setCell ?_ (.inr GW281.out) _) | exact HK.out)).1) : w.heap.size ≤ gb286)); replace HK := zM (Kept.below (S := (fun k_ => P0_0_ k_)) (by repeat (first | (with_reducible first | exact HK.out | apply Kept.alloc | apply Kept.drewN | apply Kept.drew | refine Kept.setCell ?_ (.inr GW279.out) _ | refine Kept.setCell ?_ (.inr GW280.out) _ | refine Kept.setCell ?_ (.inr GW281.out) _) | exact HK.out)) hb); have GE286 := zM ((by rw [hg]; exact (below_size bel_) : w0.heap.size ≤ gb286)); replace HB := zM (zB bel_ hb); have NB279_286 := zM (nl_ BK279 hg); have NB286_279 := zM (ng_ BK279 hg); replace BK279 := zM (bb_ BK279 hb); have NB280_286 := zM (nl_ BK280 hg); have NB286_280 := zM (ng_ BK280 hg); replace BK280 := zM (bb_ BK280 hb); have NB281_286 := zM (nl_ BK281 hg); have NB286_281 := zM (ng_ BK281 hg); replace BK281 := zM (bb_ BK281 hb); clear hb hbox hg; have hnb38 := NB286_279.out; have hnc38 := NB279_286.out; have hnb39 := NB286_280.out; have hnc39 := NB280_286.out; have hnb40 := NB286_281.out; have hnc40 := NB281_286.out; have hcz41_0 : w37.cell? ⟨gb286, 0, none⟩ = some (.int .i64 0) := (zL BK286.out 0).trans rfl; have hcz41_1 : w37.cell? ⟨gb286, 1, none⟩ = some (.int .i64 0) := (zL BK286.out 1).trans rfl; have hfz41_0 := zF BK286.out 0; have hfz41_1 := zF BK286.out 1; have hnb42 := NB280_279.out; have hnc42 := NB279_280.out; have hnb43 := NB280_281.out; have hnc43 := NB281_280.out; have hcz44_0 : w37.cell? ⟨gb280, 0, none⟩ = some (.int .i64 a1_0) := (zL BK280.out 0).trans rfl; have hcz44_1 : w37.cell? ⟨gb280, 1, none⟩ = some (.int .i64 a1_1) := (zL BK280.out 1).trans rfl; have hfz44_0 := zF BK280.out 0; have hfz44_1 := zF BK280.out 1))
        go_roundg k1
        case measure => have := HK1.out; omega
        case rel => exact ⟨(x7_1), (wrap64 (x21_1 + 1)), (by first | rfl | (simp; done) | (simp [*]; done) | (simp; grind)), H', ⟨by have := HK1.out; omega⟩, ⟨by (with_reducible repeat (first | apply Kd.R_alloc | apply Kd.R_drewN | apply Kd.R_drew)); exact Kd.R_mono (Kd.R_far (p := ⟨gb286, 1, none⟩) (Kd.R_far (p := ⟨gb286, 0, none⟩) (Kd.R_mono HO_7.out (fun k_ hk => (⟨hk, hk.2⟩ : _ ∧ k_ ≠ gb286))) (fun _ hk => hk.2) (.int .i64 ((rd_T24 l0_0 x21_1).f0))) (fun _ hk => hk.2) (.int .i64 ((rd_T24 l0_0 x21_1).f1))) (fun _ hk => ⟨hk.1.1.1, ⟨hk.1.1.2.1, ⟨hk.1.1.2.2.1, hk.1.1.2.2.2⟩⟩⟩)⟩, ⟨by (with_reducible repeat (first | apply Kd.R_alloc | apply Kd.R_drewN | apply Kd.R_drew)); exact Kd.R_mono (Kd.R_far (p := ⟨gb286, 1, none⟩) (Kd.R_far (p := ⟨gb286, 0, none⟩) (Kd.R_mono HO_19.out (fun k_ hk => (⟨hk, hk.2⟩ : _ ∧ k_ ≠ gb286))) (fun _ hk => hk.2) (.int .i64 ((rd_T24 l0_0 x21_1).f0))) (fun _ hk => hk.2) (.int .i64 ((rd_T24 l0_0 x21_1).f1))) (fun _ hk => ⟨hk.1.1.1, ⟨hk.1.1.2.1, hk.1.1.2.2⟩⟩)⟩, ⟨by (with_reducible repeat (first | apply Kd.R_alloc | apply Kd.R_drewN | apply Kd.R_drew)); exact Kd.R_mono (Kd.R_far (p := ⟨gb286, 1, none⟩) (Kd.R_far (p := ⟨gb286, 0, none⟩) (Kd.R_mono HO_280000.out (fun k_ hk => (⟨hk, hk.2⟩ : _ ∧ k_ ≠ gb286))) (fun _ hk => hk.2) (.int .i64 ((rd_T24 l0_0 x21_1).f0))) (fun _ hk => hk.2) (.int .i64 ((rd_T24 l0_0 x21_1).f1))) (fun _ hk => ⟨hk.1.1.1, ⟨hk.1.1.2.1, hk.1.1.2.2⟩⟩)⟩, ⟨blf_⟩, ⟨blf_⟩, ⟨blf_⟩, ⟨by repeat (first | (with_reducible first | exact HK.out | apply Kept.alloc | apply Kept.drewN | apply Kept.drew | refine Kept.setCell ?_ (.inr GW279.out) _ | refine Kept.setCell ?_ (.inr GW280.out) _ | refine Kept.setCell ?_ (.inr GW281.out) _ | refine Kept.setCell ?_ (.inr GW286.out) _) | exact HK.out)⟩, ⟨bel_⟩⟩
      rw [if_pos c26] at H
      have c26b0 : (!(((rd_T24 l0_0 x21_1).f0) == a1_0) || (!(((rd_T24 l0_0 x21_1).f1) == a1_1))) = true := c26
      clear c26
      by_cases c27 : x7_1.length < 8796093022208
      rotate_left
      · rw [if_neg c27] at H
        exact absurd H (by simp)
      rw [if_pos c27] at H
      have LMc27 := zM c27
      clear c27
      obtain ⟨y287, hy287⟩ : ∃ y_ : List (S24), y_ = (x7_1 ++ [(⟨(rd_T24 l0_0 x21_1).f0, (rd_T24 l0_0 x21_1).f1⟩ : S24)]) := ⟨_, rfl⟩
      replace H : (ropewayref16_Step.l0 k1 l2 y287 l0_0 (l0_0.length : Int) (wrap64 (x21_1 + 1)) l0_0 a0_1 a0_2 a1_0 a1_1) = some (r1, r2, r3) := by first | (rw [hy287]; with_reducible exact H) | (have H2_ := (Option.bind_some _ _).symm.trans H; rw [hy287]; with_reducible exact H2_) | (have H2_ := (Option.bind_some _ _).symm.trans H; with_reducible exact H2_) | with_reducible exact H | (rw [hy287]; exact H) | exact H
      have Ny287 := zM hy287
      clear hy287
      have H' := zM H
      clear H
      have p285 : 0 ≤ (x21_1 : Int) := of_decide_eq_true (by first | (with_reducible assumption) | assumption)
      have q285 : x21_1 < (l0_0.length : Int) := of_decide_eq_true (by first | (with_reducible assumption) | assumption)
      obtain ⟨ad285, e285, hx285_0, hx285_1⟩ := at_T24 (Kd.R_reads' HO_19.out).2.2 x21_1 p285 q285
      cases e285
      replace p285 := eq_true p285
      replace q285 := eq_true q285
      go_wp2_with (first | ((with_reducible refine gate_dst (N := 9) rfl ?_); refine box_event ?hg (N := 9) ?hd (cs := #[.int .i64 0, .int .i64 0]) (t := 24) ?hr ?_; (case hd => rfl); (case hg => rfl); (case hr => first | (go_simp; done) | (go_simp; rfl)); intro gb286 hg w28 hbox hb; replace HO_7 := zM (Kd.R_below (Kd.R_elderB (rl_ HO_7) gb286 (Nat.le_of_eq hg.symm)) hb); replace HO_19 := zM (Kd.R_below (Kd.R_elderB (rl_ HO_19) gb286 (Nat.le_of_eq hg.symm)) hb); replace HO_280000 := zM (Kd.R_below (Kd.R_elderB (rl_ HO_280000) gb286 (Nat.le_of_eq hg.symm)) hb); have BK286 := zM (hbox); have GW286 := zM ((by rw [hg]; exact (by first | exact HK.out.1 | exact (show Kept w _ (fun k_ => P0_0_ k_) from by repeat (first | (with_reducible first | exact HK.out | apply Kept.alloc | apply Kept.drewN | apply Kept.drew | refine Kept.setCell ?_ (.inr GW279.out) _ | refine Kept.setCell ?_ (.inr GW280.out) _ | refine Kept.setCell ?_ (.inr GW281.out) _) | exact HK.out)).1) : w.heap.size ≤ gb286)); replace HK := zM (Kept.below (S := (fun k_ => P0_0_ k_)) (by repeat (first | (with_reducible first | exact HK.out | apply Kept.alloc | apply Kept.drewN | apply Kept.drew | refine Kept.setCell ?_ (.inr GW279.out) _ | refine Kept.setCell ?_ (.inr GW280.out) _ | refine Kept.setCell ?_ (.inr GW281.out) _) | exact HK.out)) hb); have GE286 := zM ((by rw [hg]; exact (below_size bel_) : w0.heap.size ≤ gb286)); replace HB := zM (zB bel_ hb); have NB279_286 := zM (nl_ BK279 hg); have NB286_279 := zM (ng_ BK279 hg); replace BK279 := zM (bb_ BK279 hb); have NB280_286 := zM (nl_ BK280 hg); have NB286_280 := zM (ng_ BK280 hg); replace BK280 := zM (bb_ BK280 hb); have NB281_286 := zM (nl_ BK281 hg); have NB286_281 := zM (ng_ BK281 hg); replace BK281 := zM (bb_ BK281 hb); clear hb hbox hg; have hnb29 := NB286_279.out; have hnc29 := NB279_286.out; have hnb30 := NB286_280.out; have hnc30 := NB280_286.out; have hnb31 := NB286_281.out; have hnc31 := NB281_286.out; have hcz32_0 : w28.cell? ⟨gb286, 0, none⟩ = some (.int .i64 0) := (zL BK286.out 0).trans rfl; have hcz32_1 : w28.cell? ⟨gb286, 1, none⟩ = some (.int .i64 0) := (zL BK286.out 1).trans rfl; have hfz32_0 := zF BK286.out 0; have hfz32_1 := zF BK286.out 1; have hnb33 := NB280_279.out; have hnc33 := NB279_280.out; have hnb34 := NB280_281.out; have hnc34 := NB281_280.out; have hcz35_0 : w28.cell? ⟨gb280, 0, none⟩ = some (.int .i64 a1_0) := (zL BK280.out 0).trans rfl; have hcz35_1 : w28.cell? ⟨gb280, 1, none⟩ = some (.int .i64 a1_1) := (zL BK280.out 1).trans rfl; have hfz35_0 := zF BK280.out 0; have hfz35_1 := zF BK280.out 1) | ((with_reducible refine gate_builtin (b := .append) (xs := #[.tmp 28, .tmp 30]) rfl ?_); at_builtin; refine Kd.R_append k24 (w0 := w0) w0.heap.size rfl (.tmp 28) (.tmp 30) 22 24 (.agg #[(.int .i64 0), (.int .i64 0)]) 16 rfl Try.underlying22 info24 rfl (by decide) (by omega) u7 x7_1 (⟨(rd_T24 l0_0 x21_1).f0, (rd_T24 l0_0 x21_1).f1⟩ : S24) [.int .i64 ((rd_T24 l0_0 x21_1).f0), .int .i64 ((rd_T24 l0_0 x21_1).f1)] (fun k_ => (P0_0_ k_ ∨ w.heap.size ≤ k_) ∧ some k_ ≠ (.slice (some ad285) l0_0.length co14 : Value).ownBlock ∧ some k_ ≠ (.slice (some ad285) l0_0.length co14 : Value).ownBlock ∧ k_ ≠ gb280 ∧ k_ ≠ gb286) (fun _ => False) rfl (by first | (go_simp; done) | (go_simp; rfl)) ?aP (fun _ hk => hk.elim) ?aF ?aO ?aB ?aS ?aL ?_; (case aP => exact k24_mkM _ _ _ (⟨(rd_T24 l0_0 x21_1).f0, (rd_T24 l0_0 x21_1).f1⟩ : S24)); (case aB => exact bel_); (case aF => exact (fun k_ hk => ⟨(.inr (Nat.le_trans (show Kept w _ (fun k_ => P0_0_ k_) from by repeat (first | (with_reducible first | exact HK.out | apply Kept.alloc | apply Kept.drewN | apply Kept.drew | refine Kept.setCell ?_ (.inr GW279.out) _ | refine Kept.setCell ?_ (.inr GW280.out) _ | refine Kept.setCell ?_ (.inr GW281.out) _ | refine Kept.setCell ?_ (.inr GW286.out) _) | exact HK.out)).1 hk)), Kd.fresh' (Kd.R_lt (by (with_reducible repeat (first | apply Kd.R_alloc | apply Kd.R_drewN | apply Kd.R_drew)); exact (Kd.R_mono (Kd.R_far (p := ⟨gb286, 1, none⟩) (Kd.R_far (p := ⟨gb286, 0, none⟩) (Kd.R_mono HO_19.out (fun k_ hk => (⟨hk, hk.2⟩ : _ ∧ k_ ≠ gb286))) (fun _ hk => hk.2) (.int .i64 ((rd_T24 l0_0 x21_1).f0))) (fun _ hk => hk.2) (.int .i64 ((rd_T24 l0_0 x21_1).f1))) (fun _ h_ => h_.1)))) k_ hk, Kd.fresh' (Kd.R_lt (by (with_reducible repeat (first | apply Kd.R_alloc | apply Kd.R_drewN | apply Kd.R_drew)); exact (Kd.R_mono (Kd.R_far (p := ⟨gb286, 1, none⟩) (Kd.R_far (p := ⟨gb286, 0, none⟩) (Kd.R_mono HO_280000.out (fun k_ hk => (⟨hk, hk.2⟩ : _ ∧ k_ ≠ gb286))) (fun _ hk => hk.2) (.int .i64 ((rd_T24 l0_0 x21_1).f0))) (fun _ hk => hk.2) (.int .i64 ((rd_T24 l0_0 x21_1).f1))) (fun _ h_ => h_.1)))) k_ hk, Kd.freshB (g := gb280) (o := .cells #[.int .i64 a1_0, .int .i64 a1_1] 24 (0, 0)) blf_ k_ hk, Kd.freshB (g := gb286) (o := .cells #[.int .i64 ((rd_T24 l0_0 x21_1).f0), .int .i64 ((rd_T24 l0_0 x21_1).f1)] 24 (0, 0)) (by (with_reducible repeat (first | refine zN ?_ _ | refine zD ?_ | refine zA ?_ _)); refine blk_put (cs := #[.int .i64 ((rd_T24 l0_0 x21_1).f0), .int .i64 0]) ?_ 1 _ rfl; (with_reducible repeat (first | refine zN ?_ _ | refine zD ?_ | refine zA ?_ _)); refine blk_put (cs := #[.int .i64 0, .int .i64 0]) ?_ 0 _ rfl; (with_reducible repeat (first | refine zN ?_ _ | refine zD ?_ | refine zA ?_ _)); exact BK286.out) k_ hk⟩)); (case aO => exact (by (with_reducible repeat (first | apply Kd.R_alloc | apply Kd.R_drewN | apply Kd.R_drew)); exact Kd.R_mono (Kd.R_far (p := ⟨gb286, 1, none⟩) (Kd.R_far (p := ⟨gb286, 0, none⟩) (Kd.R_mono HO_7.out (fun k_ hk => (⟨hk, hk.2⟩ : _ ∧ k_ ≠ gb286))) (fun _ hk => hk.2) (.int .i64 ((rd_T24 l0_0 x21_1).f0))) (fun _ hk => hk.2) (.int .i64 ((rd_T24 l0_0 x21_1).f1))) (fun _ hk => ⟨hk.1.1.1, ⟨hk.1.1.2.1, ⟨hk.1.1.2.2.1, ⟨hk.1.1.2.2.2, hk.1.2⟩⟩⟩⟩))); (case aS => exact (below_size bel_)); (case aL => have := LMc27.out; omega); intro v288 w36 ho hb hg hat; rw [← Ny287.out] at ho; have n0_ := zM (Kd.R_after (ok := (fun k_ => (P0_0_ k_ ∨ w.heap.size ≤ k_) ∧ k_ ≠ gb280 ∧ k_ ≠ gb286)) (by (with_reducible repeat (first | apply Kd.R_alloc | apply Kd.R_drewN | apply Kd.R_drew)); exact Kd.R_mono (Kd.R_far (p := ⟨gb286, 1, none⟩) (Kd.R_far (p := ⟨gb286, 0, none⟩) (Kd.R_mono HO_19.out (fun k_ hk => (⟨hk, hk.2⟩ : _ ∧ k_ ≠ gb286))) (fun _ hk => hk.2) (.int .i64 ((rd_T24 l0_0 x21_1).f0))) (fun _ hk => hk.2) (.int .i64 ((rd_T24 l0_0 x21_1).f1))) (fun _ hk => ⟨⟨hk.1.1.1, ⟨hk.1.1.2.2, hk.1.2⟩⟩, hk.1.1.2.1⟩)) hg hat); have n1_ := zM (Kd.R_after (ok := (fun k_ => (P0_0_ k_ ∨ w.heap.size ≤ k_) ∧ k_ ≠ gb280 ∧ k_ ≠ gb286)) (by (with_reducible repeat (first | apply Kd.R_alloc | apply Kd.R_drewN | apply Kd.R_drew)); exact Kd.R_mono (Kd.R_far (p := ⟨gb286, 1, none⟩) (Kd.R_far (p := ⟨gb286, 0, none⟩) (Kd.R_mono HO_280000.out (fun k_ hk => (⟨hk, hk.2⟩ : _ ∧ k_ ≠ gb286))) (fun _ hk => hk.2) (.int .i64 ((rd_T24 l0_0 x21_1).f0))) (fun _ hk => hk.2) (.int .i64 ((rd_T24 l0_0 x21_1).f1))) (fun _ hk => ⟨⟨hk.1.1.1, ⟨hk.1.1.2.2, hk.1.2⟩⟩, hk.1.1.2.1⟩)) hg hat); have n2_ := zM (blk_grown (g := gb279) (o := .cells #[.slice (some ad285) l0_0.length co14, .int .i64 a0_1, .int .i64 a0_2] 34 (0, 0)) blf_ hg (Kd.R_ne HO_7.out BK279.out (by decide))); have n3_ := zM (blk_grown (g := gb280) (o := .cells #[.int .i64 a1_0, .int .i64 a1_1] 24 (0, 0)) blf_ hg (Kd.R_away HO_7.out (fun _ hk => hk.1.2.2.2))); have n4_ := zM (blk_grown (g := gb281) (o := .cells #[.slice none 0 0, .int .i64 0, .int .i64 0] 34 (0, 0)) blf_ hg (Kd.R_ne HO_7.out BK281.out (by decide))); have n5_ := zM (blk_grown (g := gb286) (o := .cells #[.int .i64 ((rd_T24 l0_0 x21_1).f0), .int .i64 ((rd_T24 l0_0 x21_1).f1)] 24 (0, 0)) (by (with_reducible repeat (first | refine zN ?_ _ | refine zD ?_ | refine zA ?_ _)); refine blk_put (cs := #[.int .i64 ((rd_T24 l0_0 x21_1).f0), .int .i64 0]) ?_ 1 _ rfl; (with_reducible repeat (first | refine zN ?_ _ | refine zD ?_ | refine zA ?_ _)); refine blk_put (cs := #[.int .i64 0, .int .i64 0]) ?_ 0 _ rfl; (with_reducible repeat (first | refine zN ?_ _ | refine zD ?_ | refine zA ?_ _)); exact BK286.out) hg (Kd.R_away HO_7.out (fun _ hk => hk.2))); have n6_ := zM (hb); have n7_ := zM (Kept.of_grown (S := (fun k_ => P0_0_ k_)) hg (by repeat (first | (with_reducible first | exact HK.out | apply Kept.alloc | apply Kept.drewN | apply Kept.drew | refine Kept.setCell ?_ (.inr GW279.out) _ | refine Kept.setCell ?_ (.inr GW280.out) _ | refine Kept.setCell ?_ (.inr GW281.out) _ | refine Kept.setCell ?_ (.inr GW286.out) _) | exact HK.out)) (fun k_ e_ => (HO_7.out.1 k_ e_).1.1)); have n8_ := zM (ho); clear HO_19; clear HO_280000; clear BK279; clear BK280; clear BK281; clear BK286; clear HB; clear HK; clear HO_7; have HO_19 := n0_; have HO_280000 := n1_; have BK279 := n2_; have BK280 := n3_; have BK281 := n4_; have BK286 := n5_; have HB := n6_; have HK := n7_; have HO289 := n8_; clear n0_ n1_ n2_ n3_ n4_ n5_ n6_ n7_ n8_; clear ho hb hg hat))
      go_roundg k1
      case measure => have := HK1.out; omega
      case rel => exact ⟨(y287), (wrap64 (x21_1 + 1)), (by first | rfl | (simp; done) | (simp [*]; done) | (simp; grind)), H', ⟨by have := HK1.out; omega⟩, ⟨by (with_reducible repeat (first | apply Kd.R_alloc | apply Kd.R_drewN | apply Kd.R_drew)); exact Kd.R_mono HO289.out (fun _ hk => ⟨hk.1, ⟨hk.2.1, ⟨hk.2.2.1, hk.2.2.2.1⟩⟩⟩)⟩, ⟨by (with_reducible repeat (first | apply Kd.R_alloc | apply Kd.R_drewN | apply Kd.R_drew)); exact Kd.R_mono HO_19.out (fun _ hk => ⟨hk.1.1, ⟨hk.2, hk.1.2.1⟩⟩)⟩, ⟨by (with_reducible repeat (first | apply Kd.R_alloc | apply Kd.R_drewN | apply Kd.R_drew)); exact Kd.R_mono HO_280000.out (fun _ hk => ⟨hk.1.1, ⟨hk.2, hk.1.2.1⟩⟩)⟩, ⟨blf_⟩, ⟨blf_⟩, ⟨blf_⟩, ⟨by repeat (first | (with_reducible first | exact HK.out | apply Kept.alloc | apply Kept.drewN | apply Kept.drew | refine Kept.setCell ?_ (.inr GW279.out) _ | refine Kept.setCell ?_ (.inr GW280.out) _ | refine Kept.setCell ?_ (.inr GW281.out) _ | refine Kept.setCell ?_ (.inr GW286.out) _) | exact HK.out)⟩, ⟨bel_⟩⟩
    rw [if_neg c23] at H
    have c23b0 : decide (x21_1 < (l0_0.length : Int)) = false := decide_eq_false c23
    clear c23
    have H' := zM H
    clear H
    have hnb45 := NB279_280.out
    have hnc45 := NB280_279.out
    have hnb46 := NB279_281.out
    have hnc46 := NB281_279.out
    have hcz47_0 : wr.cell? ⟨gb279, 0, none⟩ = some (.slice Ao14 l0_0.length co14) := (zL BK279.out 0).trans rfl
    have hcz47_1 : wr.cell? ⟨gb279, 1, none⟩ = some (.int .i64 a0_1) := (zL BK279.out 1).trans rfl
    have hcz47_2 : wr.cell? ⟨gb279, 2, none⟩ = some (.int .i64 a0_2) := (zL BK279.out 2).trans rfl
    have hfz47_0 := zF BK279.out 0
    have hfz47_1 := zF BK279.out 1
    have hfz47_2 := zF BK279.out 2
    go_wp2_with (first | ((with_reducible refine gate_dst (N := 10) rfl ?_); refine box_event ?hg (N := 10) ?hd (cs := #[.int .i64 0, .int .i64 0]) (t := 24) ?hr ?_; (case hd => rfl); (case hg => rfl); (case hr => first | (go_simp; done) | (go_simp; rfl)); intro gb290 hg w48 hbox hb; replace HO_7 := zM (Kd.R_below (Kd.R_elderB (rl_ HO_7) gb290 (Nat.le_of_eq hg.symm)) hb); replace HO_19 := zM (Kd.R_below (Kd.R_elderB (rl_ HO_19) gb290 (Nat.le_of_eq hg.symm)) hb); replace HO_280000 := zM (Kd.R_below (Kd.R_elderB (rl_ HO_280000) gb290 (Nat.le_of_eq hg.symm)) hb); have BK290 := zM (hbox); have GW290 := zM ((by rw [hg]; exact (by first | exact HK.out.1 | exact (show Kept w _ (fun k_ => P0_0_ k_) from by repeat (first | (with_reducible first | exact HK.out | apply Kept.alloc | apply Kept.drewN | apply Kept.drew | refine Kept.setCell ?_ (.inr GW279.out) _ | refine Kept.setCell ?_ (.inr GW280.out) _ | refine Kept.setCell ?_ (.inr GW281.out) _) | exact HK.out)).1) : w.heap.size ≤ gb290)); replace HK := zM (Kept.below (S := (fun k_ => P0_0_ k_)) (by repeat (first | (with_reducible first | exact HK.out | apply Kept.alloc | apply Kept.drewN | apply Kept.drew | refine Kept.setCell ?_ (.inr GW279.out) _ | refine Kept.setCell ?_ (.inr GW280.out) _ | refine Kept.setCell ?_ (.inr GW281.out) _) | exact HK.out)) hb); have GE290 := zM ((by rw [hg]; exact (below_size bel_) : w0.heap.size ≤ gb290)); replace HB := zM (zB bel_ hb); have NB279_290 := zM (nl_ BK279 hg); have NB290_279 := zM (ng_ BK279 hg); replace BK279 := zM (bb_ BK279 hb); have NB280_290 := zM (nl_ BK280 hg); have NB290_280 := zM (ng_ BK280 hg); replace BK280 := zM (bb_ BK280 hb); have NB281_290 := zM (nl_ BK281 hg); have NB290_281 := zM (ng_ BK281 hg); replace BK281 := zM (bb_ BK281 hb); clear hb hbox hg; have hnb49 := NB290_279.out; have hnc49 := NB279_290.out; have hnb50 := NB290_280.out; have hnc50 := NB280_290.out; have hnb51 := NB290_281.out; have hnc51 := NB281_290.out; have hcz52_0 : w48.cell? ⟨gb290, 0, none⟩ = some (.int .i64 0) := (zL BK290.out 0).trans rfl; have hcz52_1 : w48.cell? ⟨gb290, 1, none⟩ = some (.int .i64 0) := (zL BK290.out 1).trans rfl; have hfz52_0 := zF BK290.out 0; have hfz52_1 := zF BK290.out 1))
    go_loopg [7, 37] k1 (fun kq v7 v37 w' => ∃ (x7_2 : List (S24)) (x37_2 : Int) (x291000_2 : Int) (x291001_2 : Int), v37 = .int .i64 x37_2 ∧ Aside0 (ropewayref16_Step.l1 kq x7_2 l2 (l2.length : Int) x37_2 a1_0 a1_1 x291000_2 x291001_2 = some (r1, r2, r3)) ∧ Aside0 (kq ≤ k1) ∧ Aside0 (Kd.R k24 24 w' w0.heap.size (fun k_ => (P0_0_ k_ ∨ w.heap.size ≤ k_) ∧ some k_ ≠ ((.slice Ao14 l0_0.length co14) : Value).ownBlock ∧ k_ ≠ gb280 ∧ k_ ≠ gb290) v7 x7_2) ∧ Aside0 (Kd.R k24 24 w' w0.heap.size (fun k_ => (P0_0_ k_ ∨ w.heap.size ≤ k_) ∧ some k_ ≠ (v7 : Value).ownBlock ∧ k_ ≠ gb280 ∧ k_ ≠ gb290) (.slice Ao14 l0_0.length co14) l0_0) ∧ Aside0 (w'.heap[gb279]? = some (.cells #[(.slice Ao14 l0_0.length co14), .int .i64 a0_1, .int .i64 a0_2] 34 (0, 0))) ∧ Aside0 (w'.heap[gb280]? = some (.cells #[.int .i64 a1_0, .int .i64 a1_1] 24 (0, 0))) ∧ Aside0 (w'.heap[gb281]? = some (.cells #[(.slice none 0 0), .int .i64 0, .int .i64 0] 34 (0, 0))) ∧ Aside0 (w'.heap[gb290]? = some (.cells #[.int .i64 x291000_2, .int .i64 x291001_2] 24 (0, 0))) ∧ Aside0 (Kept w w' (fun k_ => P0_0_ k_)) ∧ Aside0 (Below w0.heap.size w0 w'))
    case atStart => exact ⟨(x7_1), (0), (a0_1), (a0_2), (by first | rfl | (simp; done) | (simp [*]; done) | (simp; grind)), H', ⟨Nat.le_refl _⟩, ⟨by (with_reducible repeat (first | apply Kd.R_alloc | apply Kd.R_drewN | apply Kd.R_drew)); exact Kd.R_mono (Kd.R_far (p := ⟨gb290, 1, none⟩) (Kd.R_far (p := ⟨gb290, 0, none⟩) (Kd.R_mono HO_7.out (fun k_ hk => (⟨hk, hk.2⟩ : _ ∧ k_ ≠ gb290))) (fun _ hk => hk.2) (.int .i64 a0_1)) (fun _ hk => hk.2) (.int .i64 a0_2)) (fun _ hk => ⟨hk.1.1.1, ⟨hk.1.1.2.2.1, ⟨hk.1.1.2.2.2, hk.1.2⟩⟩⟩)⟩, ⟨by (with_reducible repeat (first | apply Kd.R_alloc | apply Kd.R_drewN | apply Kd.R_drew)); exact Kd.R_mono (Kd.R_far (p := ⟨gb290, 1, none⟩) (Kd.R_far (p := ⟨gb290, 0, none⟩) (Kd.R_mono HO_280000.out (fun k_ hk => (⟨hk, hk.2⟩ : _ ∧ k_ ≠ gb290))) (fun _ hk => hk.2) (.int .i64 a0_1)) (fun _ hk => hk.2) (.int .i64 a0_2)) (fun _ hk => ⟨hk.1.1.1, ⟨hk.1.1.2.1, ⟨hk.1.1.2.2, hk.1.2⟩⟩⟩)⟩, ⟨blf_⟩, ⟨blf_⟩, ⟨blf_⟩, ⟨by (with_reducible repeat (first | refine zN ?_ _ | refine zD ?_ | refine zA ?_ _)); refine blk_put (cs := #[.int .i64 a0_1, .int .i64 0]) ?_ 1 _ rfl; (with_reducible repeat (first | refine zN ?_ _ | refine zD ?_ | refine zA ?_ _)); refine blk_put (cs := #[.int .i64 0, .int .i64 0]) ?_ 0 _ rfl; (with_reducible repeat (first | refine zN ?_ _ | refine zD ?_ | refine zA ?_ _)); exact BK290.out⟩, ⟨by repeat (first | (with_reducible first | exact HK.out | apply Kept.alloc | apply Kept.drewN | apply Kept.drew | refine Kept.setCell ?_ (.inr GW279.out) _ | refine Kept.setCell ?_ (.inr GW280.out) _ | refine Kept.setCell ?_ (.inr GW281.out) _ | refine Kept.setCell ?_ (.inr GW290.out) _) | exact HK.out)⟩, ⟨bel_⟩⟩
    case round =>
     clear H'
     try clear c1
     try clear c2
     try clear p2
     try clear q2
     try clear hx2
     try clear c3
     try clear c4
     try clear c4b0
     try clear c4b1
     try clear c4b2
     try clear c5
     try clear p6
     try clear c9
     try clear c10
     try clear c12
     try clear c16
     try clear c20
     try clear c21
     try clear c23
     try clear c23b0
     try clear c24
     try clear c24b0
     try clear c25
     try clear c25b0
     try clear c26
     try clear c26b0
     try clear c27
     try clear p28
     try clear q28
     try clear hx28
     try clear c29
     try clear c30
     try clear c31
     try clear c33
     try clear c34
     try clear c38
     try clear c39
     try clear c40
     try clear c42
     try clear c43
     try clear c45
     try clear c46
     try clear c49
     try clear c50
     try clear c51
     try clear hcz11_0
     try clear hcz11_1
     try clear hcz11_2
     try clear hcz13_0
     try clear hcz13_1
     try clear hcz13_2
     try clear hcz22_0
     try clear hcz22_1
     try clear hcz22_2
     try clear hcz32_0
     try clear hcz32_1
     try clear hcz35_0
     try clear hcz35_1
     try clear hcz41_0
     try clear hcz41_1
     try clear hcz44_0
     try clear hcz44_1
     try clear hcz47_0
     try clear hcz47_1
     try clear hcz47_2
     try clear hcz52_0
     try clear hcz52_1
     try clear hfz11_0
     try clear hfz11_1
     try clear hfz11_2
     try clear hfz13_0
     try clear hfz13_1
     try clear hfz13_2
     try clear hfz22_0
     try clear hfz22_1
     try clear hfz22_2
     try clear hfz32_0
     try clear hfz32_1
     try clear hfz35_0
     try clear hfz35_1
     try clear hfz41_0
     try clear hfz41_1
     try clear hfz44_0
     try clear hfz44_1
     try clear hfz47_0
     try clear hfz47_1
     try clear hfz47_2
     try clear hfz52_0
     try clear hfz52_1
     try clear hx285_0
     try clear hx285_1
     try clear p2
     try clear p285
     try clear q285
     obtain ⟨x7_2, x37_2, x291000_2, x291001_2, rfl, HA, HK2, HO_7, HO_280000, BK279, BK280, BK281, BK290, HK, HB⟩ := hrel
     cases gk with
     | zero => exact absurd HA.out (by simp [ropewayref16_Step.l1])
     | succ k2 =>
      have H := HA.out
      clear HA
      simp only [ropewayref16_Step.l1] at H
      by_cases c53 : x37_2 < (l2.length : Int)
      rotate_left
      · rw [if_neg c53] at H
        have c53b0 : decide (x37_2 < (l2.length : Int)) = false := decide_eq_false c53
        clear c53
        replace H := Option.bind_eq_some_iff.mp H
        obtain ⟨t306, A830, H⟩ := H
        replace H : (some (t306, x291000_2, x291001_2)) = some (r1, r2, r3) := H
        have A83 := zM A830
        clear A830
        simp only [Option.some.injEq, Prod.mk.injEq] at H
        obtain ⟨rfl, rfl, rfl⟩ := H
        try go_wp2
        replace HO_7 := zM (Kd.R_drew HO_7.out)
        replace HO_280000 := zM (Kd.R_drew HO_280000.out)
        replace BK279 := zM (zD BK279.out)
        replace BK280 := zM (zD BK280.out)
        replace BK281 := zM (zD BK281.out)
        replace BK290 := zM (zD BK290.out)
        replace HK := zM (Kept.drew HK.out)
        replace HB := zM (below_drew1 HB.out)
        obtain ⟨Ao85, co85, eo85⟩ := Kd.R_slice HO_7.out
        (first | subst eo85 | (injection eo85 with f1_ f2_ f3_; have f4_ := f1_.symm; have f5_ := f3_.symm; clear f1_ f2_ f3_; subst f4_; subst f5_))
        refine start_ (n := 5) (S := fun w' => w'.cell? ⟨gb290, 0, none⟩ = some (.int .i64 x291000_2) ∧ w'.cell? ⟨gb290, 1, none⟩ = some (.int .i64 x291001_2)) (ds := []) #[F_, F_, F_, F_, F_] (by kernel_rfl) rfl rfl ⟨(zL BK290.out 0).trans rfl, (zL BK290.out 1).trans rfl⟩ (fun hHeld => ?_)
        generalize wr.drew = w84 at HO_7 HO_280000 BK279 BK280 BK281 BK290 HK HB hHeld ⊢
        refine pure_ (i := 0) (N := some 53) (v := ?_) (a' := ?_) #[T_, F_, F_, F_, F_] rfl rfl (by kernel_rfl) (fun _ _ _ h => h) (Or.inl ⟨by rfl, ?_⟩) ?_ ?_
        rotate_left
        · intro w'
          go_simp
          with_reducible rfl
        rotate_left
        · simp only [Act.put, zS, zZ, zC, i64_w, i32_w]
          rfl
        refine take_ (i := 2) (N := some 55) (v := ?_) (a' := ?_) #[T_, F_, T_, F_, F_] rfl rfl (by kernel_rfl) (fun _ _ _ h => h) (Or.inl ⟨by rfl, ?_⟩) hHeld ?_ ?_
        rotate_left
        · rintro w' ⟨s0, s1⟩
          go_simp
          with_reducible rfl
        rotate_left
        · simp only [Act.put, zS, zZ, zC, i64_w, i32_w]
          rfl
        refine one_ (i := 1) (N := some 54) #[T_, T_, T_, F_, F_] rfl rfl (by kernel_rfl) (by decide) (fun K hK => ?_)
        refine goes_ Try.func28 (by kernel_rfl) rfl #[.slice Ao85 x7_2.length co85] (by rfl) rfl rfl (by (try simp only [List.map_toArray, List.map_cons, List.map_nil]); first | done | rfl | (simp only [List.length_drop, List.length_take]; rfl)) ?_
        with_reducible refine (ropewayref16_sorted.calls k2 _ _ x7_2 t306 _ ?side1 ?side2 A83.out).mono ?_
        (case side1 => repeat (first | exact (Kd.R_reads' HO_7.out).2.2 | (with_reducible refine Kd.C_alloc ?_ _) | (with_reducible refine Kd.C_drewN ?_ _) | (with_reducible refine Kd.C_drew ?_)))
        (case side2 => exact (Kd.R_reads' HO_7.out).2.1)
        rintro e w86 ⟨v307, rfl, ho0, hb⟩
        refine ⟨_, rfl, ?_⟩
        have HO308 := zM (Kd.R_lower (Kd.R_newB (Kd.R_newB (Kd.R_new' (Kd.R_new' (Kd.R_newM (M := fun k_ => (P0_0_ k_ ∨ w.heap.size ≤ k_)) ho0 (by first | exact HK.out.1 | exact (show Kept w _ (fun k_ => P0_0_ k_) from by repeat (first | (with_reducible first | exact HK.out | apply Kept.alloc | apply Kept.drewN | apply Kept.drew | refine Kept.setCell ?_ (.inr GW279.out) _ | refine Kept.setCell ?_ (.inr GW280.out) _ | refine Kept.setCell ?_ (.inr GW281.out) _ | refine Kept.setCell ?_ (.inr GW290.out) _) | exact HK.out)).1) (fun k_ h_ => .inr h_)) (Kd.R_lt (rl_ HO_7))) (Kd.R_lt (rl_ HO_280000))) (g := gb280) (o := .cells #[.int .i64 a1_0, .int .i64 a1_1] 24 (0, 0)) blk_) (g := gb290) (o := .cells #[.int .i64 x291000_2, .int .i64 x291001_2] 24 (0, 0)) blk_) (below_size bel_))
        replace HO_7 := zM (Kd.R_elder' (rl_ HO_7) (Kd.R_base ho0) hb)
        replace HO_280000 := zM (Kd.R_elder' (rl_ HO_280000) (Kd.R_base ho0) hb)
        replace BK279 := zM (bb_ BK279 hb)
        replace BK280 := zM (bb_ BK280 hb)
        replace BK281 := zM (bb_ BK281 hb)
        replace BK290 := zM (bb_ BK290 hb)
        replace HK := zM (Kept.below (S := (fun k_ => P0_0_ k_)) (by repeat (first | (with_reducible first | exact HK.out | apply Kept.alloc | apply Kept.drewN | apply Kept.drew | refine Kept.setCell ?_ (.inr GW279.out) _ | refine Kept.setCell ?_ (.inr GW280.out) _ | refine Kept.setCell ?_ (.inr GW281.out) _ | refine Kept.setCell ?_ (.inr GW290.out) _) | exact HK.out)) hb)
        replace HB := zM (zB bel_ hb)
        (try clear hb)
        (try clear hb2)
        (try clear hk)
        (try clear hi)
        (try clear ho0)
        obtain ⟨Ao87, co87, eo87⟩ := Kd.R_slice HO308.out
        (first | subst eo87 | (injection eo87 with f1_ f2_ f3_; have f4_ := f1_.symm; have f5_ := f3_.symm; clear f1_ f2_ f3_; subst f4_; subst f5_))
        refine hK.out _ _ ⟨(zL BK290.out 0).trans rfl, (zL BK290.out 1).trans rfl⟩ (fun hHeld => ?_)
        clear hK K
        refine norm_ (a' := ?_) ?_ ?_
        rotate_left
        · show Act.put _ (some 54) _ = _
          simp only [Act.put, zS, zZ, zC, i64_w, i32_w]
          rfl
        refine pure_ (i := 3) (N := some 56) (v := ?_) (a' := ?_) #[T_, T_, T_, T_, F_] rfl rfl (by kernel_rfl) (fun _ _ _ h => h) (Or.inl ⟨by rfl, ?_⟩) ?_ ?_
        rotate_left
        · intro w'
          go_simp
          with_reducible rfl
        rotate_left
        · simp only [Act.put, zS, zZ, zC, i64_w, i32_w]
          rfl
        refine one_ (i := 4) (N := none) #[T_, T_, T_, T_, T_] rfl rfl (by kernel_rfl) (by decide) (fun K hK => ?_)
        have hs88 : w86.cell? ⟨gb281, 0, none⟩ = some (.slice none 0 0) := (zL BK281.out 0).trans rfl
        have hfs88 := zF BK281.out 0
        have hns88_0 := NB279_281.out
        have hns88_1 := NB280_281.out
        have hns88_3 := NB290_281.out
        have hms88_0 := NB281_279.out
        have hms88_1 := NB281_280.out
        have hms88_3 := NB281_290.out
        have hs89 : w86.cell? ⟨gb281, 1, none⟩ = some (.int .i64 0) := (zL BK281.out 1).trans rfl
        have hfs89 := zF BK281.out 1
        have hns89_0 := NB279_281.out
        have hns89_1 := NB280_281.out
        have hns89_3 := NB290_281.out
        have hms89_0 := NB281_279.out
        have hms89_1 := NB281_280.out
        have hms89_3 := NB281_290.out
        have hs90 : w86.cell? ⟨gb281, 2, none⟩ = some (.int .i64 0) := (zL BK281.out 2).trans rfl
        have hfs90 := zF BK281.out 2
        have hns90_0 := NB279_281.out
        have hns90_1 := NB280_281.out
        have hns90_3 := NB290_281.out
        have hms90_0 := NB281_279.out
        have hms90_1 := NB281_280.out
        have hms90_3 := NB281_290.out
        refine skip_ (w1 := ?_) (by rfl) rfl ?_ ?_
        rotate_left
        · go_simp
          rfl
        refine hK.out _ _ ⟨((cell_far (p := ⟨gb281, _, none⟩) NB290_281.out _).trans (((cell_far (p := ⟨gb281, _, none⟩) NB290_281.out _).trans (((cell_far (p := ⟨gb281, _, none⟩) NB290_281.out _).trans (hHeld.1)))))), ((cell_far (p := ⟨gb281, _, none⟩) NB290_281.out _).trans (((cell_far (p := ⟨gb281, _, none⟩) NB290_281.out _).trans (((cell_far (p := ⟨gb281, _, none⟩) NB290_281.out _).trans (hHeld.2))))))⟩ (fun hHeld => ?_)
        clear hK K
        refine done_ (by kernel_rfl) ?_
        try go_wp2
        refine bodyPost_ret (results_cell_row rfl _ _ gb281 34 #[.slice Ao87 t306.length co87, .int .i64 x291000_2, .int .i64 x291001_2] (0, 0) _ rfl (by (with_reducible repeat (first | refine zN ?_ _ | refine zD ?_ | refine zA ?_ _)); refine blk_put (cs := #[.slice Ao87 t306.length co87, .int .i64 x291000_2, .int .i64 0]) ?_ 2 _ rfl; (with_reducible repeat (first | refine zN ?_ _ | refine zD ?_ | refine zA ?_ _)); refine blk_put (cs := #[.slice Ao87 t306.length co87, .int .i64 0, .int .i64 0]) ?_ 1 _ rfl; (with_reducible repeat (first | refine zN ?_ _ | refine zD ?_ | refine zA ?_ _)); refine blk_put (cs := #[.slice none 0 0, .int .i64 0, .int .i64 0]) ?_ 0 _ rfl; (with_reducible repeat (first | refine zN ?_ _ | refine zD ?_ | refine zA ?_ _)); exact BK281.out) Try.underlying34 rfl (by kernel_rfl)) rfl ?_
        exact ⟨_, by first | rfl | (simp [errW_none, errW_some] <;> rfl) | (simp [*, errW_none, errW_some] <;> rfl), by (with_reducible repeat (first | apply Kd.R_alloc | apply Kd.R_drewN | apply Kd.R_drew)); exact Kd.R_mono (Kd.R_far (p := ⟨gb281, 2, none⟩) (Kd.R_far (p := ⟨gb281, 1, none⟩) (Kd.R_far (p := ⟨gb281, 0, none⟩) (Kd.R_types HO308.out BK281.out (by decide)) (fun _ hk => hk.2) (.slice Ao87 t306.length co87)) (fun _ hk => hk.2) (.int .i64 x291000_2)) (fun _ hk => hk.2) (.int .i64 x291001_2)) (fun _ hk => hk.1.1.1.1.1.1), by repeat (first | (with_reducible first | exact HB.out | apply below_alloc | apply pw_below_drewN | apply below_drew1 | refine below_set ?_ GE279.out | refine below_set ?_ GE280.out | refine below_set ?_ GE281.out | refine below_set ?_ GE290.out) | exact HB.out), by repeat (first | (with_reducible first | exact HK.out | apply Kept.alloc | apply Kept.drewN | apply Kept.drew | refine Kept.setCell ?_ (.inr GW279.out) _ | refine Kept.setCell ?_ (.inr GW280.out) _ | refine Kept.setCell ?_ (.inr GW281.out) _ | refine Kept.setCell ?_ (.inr GW290.out) _) | exact HK.out)⟩
      rw [if_pos c53] at H
      have c53b0 : decide (x37_2 < (l2.length : Int)) = true := decide_eq_true c53
      clear c53
      by_cases c54 : 0 ≤ x37_2
      rotate_left
      · rw [if_neg c54] at H
        exact absurd H (by simp)
      rw [if_pos c54] at H
      have c54b0 : decide (0 ≤ x37_2) = true := decide_eq_true c54
      clear c54
      by_cases c55 : x37_2 < (l2.length : Int)
      rotate_left
      · rw [if_neg c55] at H
        exact absurd H (by simp)
      rw [if_pos c55] at H
      have c55b0 : decide (x37_2 < (l2.length : Int)) = true := decide_eq_true c55
      clear c55
      obtain ⟨y293, hy293⟩ : ∃ y_ : List (S24), y_ = (([(⟨a1_0, a1_1⟩ : S24), (⟨(rd_T24 l2 x37_2).f0, (rd_T24 l2 x37_2).f1⟩ : S24)] : List (S24))) := ⟨_, rfl⟩
      replace H : ((ropewayref04_Join.f k2 y293).bind fun bt296 => (if x7_2.length < 8796093022208 then ((ropewayref04_Join.f k2 (([(⟨x291000_2, x291001_2⟩ : S24), (⟨(rd_T24 l2 x37_2).f0, (rd_T24 l2 x37_2).f1⟩ : S24)] : List (S24)))).bind fun bt304 => (ropewayref16_Step.l1 k2 (x7_2 ++ [(⟨bt296.1, bt296.2⟩ : S24)]) l2 (l2.length : Int) (wrap64 (x37_2 + 1)) a1_0 a1_1 bt304.1 bt304.2)) else (none))) = some (r1, r2, r3) := by first | (rw [hy293]; with_reducible exact H) | (have H2_ := (Option.bind_some _ _).symm.trans H; rw [hy293]; with_reducible exact H2_) | (have H2_ := (Option.bind_some _ _).symm.trans H; with_reducible exact H2_) | with_reducible exact H | (rw [hy293]; exact H) | exact H
      have Ny293 := zM hy293
      clear hy293
      replace H := Option.bind_eq_some_iff.mp H
      obtain ⟨⟨t296, t297⟩, A560, H⟩ := H
      replace H : (if x7_2.length < 8796093022208 then ((ropewayref04_Join.f k2 (([(⟨x291000_2, x291001_2⟩ : S24), (⟨(rd_T24 l2 x37_2).f0, (rd_T24 l2 x37_2).f1⟩ : S24)] : List (S24)))).bind fun bt304 => (ropewayref16_Step.l1 k2 (x7_2 ++ [(⟨t296, t297⟩ : S24)]) l2 (l2.length : Int) (wrap64 (x37_2 + 1)) a1_0 a1_1 bt304.1 bt304.2)) else (none)) = some (r1, r2, r3) := H
      have A56 := zM A560
      clear A560
      by_cases c57 : x7_2.length < 8796093022208
      rotate_left
      · rw [if_neg c57] at H
        exact absurd H (by simp)
      rw [if_pos c57] at H
      have LMc57 := zM c57
      clear c57
      obtain ⟨y298, hy298⟩ : ∃ y_ : List (S24), y_ = (x7_2 ++ [(⟨t296, t297⟩ : S24)]) := ⟨_, rfl⟩
      replace H : ((ropewayref04_Join.f k2 (([(⟨x291000_2, x291001_2⟩ : S24), (⟨(rd_T24 l2 x37_2).f0, (rd_T24 l2 x37_2).f1⟩ : S24)] : List (S24)))).bind fun bt304 => (ropewayref16_Step.l1 k2 y298 l2 (l2.length : Int) (wrap64 (x37_2 + 1)) a1_0 a1_1 bt304.1 bt304.2)) = some (r1, r2, r3) := by first | (rw [hy298]; with_reducible exact H) | (have H2_ := (Option.bind_some _ _).symm.trans H; rw [hy298]; with_reducible exact H2_) | (have H2_ := (Option.bind_some _ _).symm.trans H; with_reducible exact H2_) | with_reducible exact H | (rw [hy298]; exact H) | exact H
      have Ny298 := zM hy298
      clear hy298
      obtain ⟨y301, hy301⟩ : ∃ y_ : List (S24), y_ = (([(⟨x291000_2, x291001_2⟩ : S24), (⟨(rd_T24 l2 x37_2).f0, (rd_T24 l2 x37_2).f1⟩ : S24)] : List (S24))) := ⟨_, rfl⟩
      replace H : ((ropewayref04_Join.f k2 y301).bind fun bt304 => (ropewayref16_Step.l1 k2 y298 l2 (l2.length : Int) (wrap64 (x37_2 + 1)) a1_0 a1_1 bt304.1 bt304.2)) = some (r1, r2, r3) := by first | (rw [hy301]; with_reducible exact H) | (have H2_ := (Option.bind_some _ _).symm.trans H; rw [hy301]; with_reducible exact H2_) | (have H2_ := (Option.bind_some _ _).symm.trans H; with_reducible exact H2_) | with_reducible exact H | (rw [hy301]; exact H) | exact H
      have Ny301 := zM hy301
      clear hy301
      replace H := Option.bind_eq_some_iff.mp H
      obtain ⟨⟨t304, t305⟩, A580, H⟩ := H
      replace H : (ropewayref16_Step.l1 k2 y298 l2 (l2.length : Int) (wrap64 (x37_2 + 1)) a1_0 a1_1 t304 t305) = some (r1, r2, r3) := H
      have A58 := zM A580
      clear A580
      have H' := zM H
      clear H
      have p291 : 0 ≤ (x37_2 : Int) := of_decide_eq_true (by first | (with_reducible assumption) | assumption)
      have q291 : x37_2 < (l2.length : Int) := of_decide_eq_true (by first | (with_reducible assumption) | assumption)
      obtain ⟨ad291, e291, hx291_0, hx291_1⟩ := at_T24 (Kd.C_kept_now HR2.out HK.out) x37_2 p291 q291
      cases e291
      replace p291 := eq_true p291
      replace q291 := eq_true q291
      go_wp2_with (first | ((with_reducible refine gate_dst (N := 12) rfl ?_); refine box_event ?hg (N := 12) ?hd (cs := #[.int .i64 0, .int .i64 0]) (t := 24) ?hr ?_; (case hd => rfl); (case hg => rfl); (case hr => first | (go_simp; done) | (go_simp; rfl)); intro gb292 hg w59 hbox hb; replace HO_7 := zM (Kd.R_below (Kd.R_elderB (rl_ HO_7) gb292 (Nat.le_of_eq hg.symm)) hb); replace HO_280000 := zM (Kd.R_below (Kd.R_elderB (rl_ HO_280000) gb292 (Nat.le_of_eq hg.symm)) hb); have BK292 := zM (hbox); have GW292 := zM ((by rw [hg]; exact (by first | exact HK.out.1 | exact (show Kept w _ (fun k_ => P0_0_ k_) from by repeat (first | (with_reducible first | exact HK.out | apply Kept.alloc | apply Kept.drewN | apply Kept.drew | refine Kept.setCell ?_ (.inr GW279.out) _ | refine Kept.setCell ?_ (.inr GW280.out) _ | refine Kept.setCell ?_ (.inr GW281.out) _ | refine Kept.setCell ?_ (.inr GW290.out) _) | exact HK.out)).1) : w.heap.size ≤ gb292)); replace HK := zM (Kept.below (S := (fun k_ => P0_0_ k_)) (by repeat (first | (with_reducible first | exact HK.out | apply Kept.alloc | apply Kept.drewN | apply Kept.drew | refine Kept.setCell ?_ (.inr GW279.out) _ | refine Kept.setCell ?_ (.inr GW280.out) _ | refine Kept.setCell ?_ (.inr GW281.out) _ | refine Kept.setCell ?_ (.inr GW290.out) _) | exact HK.out)) hb); have GE292 := zM ((by rw [hg]; exact (below_size bel_) : w0.heap.size ≤ gb292)); replace HB := zM (zB bel_ hb); have NB279_292 := zM (nl_ BK279 hg); have NB292_279 := zM (ng_ BK279 hg); replace BK279 := zM (bb_ BK279 hb); have NB280_292 := zM (nl_ BK280 hg); have NB292_280 := zM (ng_ BK280 hg); replace BK280 := zM (bb_ BK280 hb); have NB281_292 := zM (nl_ BK281 hg); have NB292_281 := zM (ng_ BK281 hg); replace BK281 := zM (bb_ BK281 hb); have NB290_292 := zM (nl_ BK290 hg); have NB292_290 := zM (ng_ BK290 hg); replace BK290 := zM (bb_ BK290 hb); clear hb hbox hg; have hnb60 := NB292_279.out; have hnc60 := NB279_292.out; have hnb61 := NB292_280.out; have hnc61 := NB280_292.out; have hnb62 := NB292_281.out; have hnc62 := NB281_292.out; have hnb63 := NB292_290.out; have hnc63 := NB290_292.out; have hcz64_0 : w59.cell? ⟨gb292, 0, none⟩ = some (.int .i64 0) := (zL BK292.out 0).trans rfl; have hcz64_1 : w59.cell? ⟨gb292, 1, none⟩ = some (.int .i64 0) := (zL BK292.out 1).trans rfl; have hfz64_0 := zF BK292.out 0; have hfz64_1 := zF BK292.out 1; have hnb65 := NB280_279.out; have hnc65 := NB279_280.out; have hnb66 := NB280_281.out; have hnc66 := NB281_280.out; have hnb67 := NB280_290.out; have hnc67 := NB290_280.out; have hcz68_0 : w59.cell? ⟨gb280, 0, none⟩ = some (.int .i64 a1_0) := (zL BK280.out 0).trans rfl; have hcz68_1 : w59.cell? ⟨gb280, 1, none⟩ = some (.int .i64 a1_1) := (zL BK280.out 1).trans rfl; have hfz68_0 := zF BK280.out 0; have hfz68_1 := zF BK280.out 1) | ((with_reducible refine gate_dst (N := 44) rfl ?_); refine Kd.R_lit k24 _ 24 ?hg (N := 44) ?hd (xs := ([(⟨a1_0, a1_1⟩ : S24), (⟨(rd_T24 l2 x37_2).f0, (rd_T24 l2 x37_2).f1⟩ : S24)] : List (S24))) (inner := [.int .i64 a1_0, .int .i64 a1_1, .int .i64 ((rd_T24 l2 x37_2).f0), .int .i64 ((rd_T24 l2 x37_2).f1)]) (ok := fun _ => True) (okp := fun _ => True) ?hr ?hp (fun _ hk => hk) trivial (Below.refl _ _) (Nat.le_refl _) (by simp) ?_; (case hd => rfl); (case hg => rfl); (case hr => first | (go_simp; done) | (go_simp; rfl)); (case hp => exact (Reps.c2 (show Kd.M k24 _ _ _ (⟨a1_0, a1_1⟩ : S24) [.int .i64 a1_0, .int .i64 a1_1] from (k24_mkM _ _ _ (⟨a1_0, a1_1⟩ : S24) )) (Reps.c2 (show Kd.M k24 _ _ _ (⟨(rd_T24 l2 x37_2).f0, (rd_T24 l2 x37_2).f1⟩ : S24) [.int .i64 ((rd_T24 l2 x37_2).f0), .int .i64 ((rd_T24 l2 x37_2).f1)] from (k24_mkM _ _ _ (⟨(rd_T24 l2 x37_2).f0, (rd_T24 l2 x37_2).f1⟩ : S24) )) (Reps.none _ _)))); intro v294 w69 ho70 hb hg_ hnew_; clear hg_ hnew_; (first | rw [← Ny293.out] at ho70 | (simp only [Int.reduceToNat] at ho70; rw [← Ny293.out] at ho70)); have n0_ := zM (Kd.R_elder' (by (with_reducible repeat (first | apply Kd.R_alloc | apply Kd.R_drewN | apply Kd.R_drew)); exact (Kd.R_mono (Kd.R_far (p := ⟨gb292, 1, none⟩) (Kd.R_far (p := ⟨gb292, 0, none⟩) (Kd.R_mono HO_7.out (fun k_ hk => (⟨hk, hk.2⟩ : _ ∧ k_ ≠ gb292))) (fun _ hk => hk.2) (.int .i64 ((rd_T24 l2 x37_2).f0))) (fun _ hk => hk.2) (.int .i64 ((rd_T24 l2 x37_2).f1))) (fun _ h_ => h_.1))) (Kd.R_base ho70) hb); have n1_ := zM (Kd.R_elder' (by (with_reducible repeat (first | apply Kd.R_alloc | apply Kd.R_drewN | apply Kd.R_drew)); exact (Kd.R_mono (Kd.R_far (p := ⟨gb292, 1, none⟩) (Kd.R_far (p := ⟨gb292, 0, none⟩) (Kd.R_mono HO_280000.out (fun k_ hk => (⟨hk, hk.2⟩ : _ ∧ k_ ≠ gb292))) (fun _ hk => hk.2) (.int .i64 ((rd_T24 l2 x37_2).f0))) (fun _ hk => hk.2) (.int .i64 ((rd_T24 l2 x37_2).f1))) (fun _ h_ => h_.1))) (Kd.R_base ho70) hb); have n2_ := zM (Kd.R_lower (Kd.R_newB (Kd.R_newB (Kd.R_newB (Kd.R_new' (Kd.R_new' (Kd.R_newM (M := fun k_ => (P0_0_ k_ ∨ w.heap.size ≤ k_)) ho70 (show Kept w _ (fun k_ => P0_0_ k_) from by repeat (first | (with_reducible first | exact HK.out | apply Kept.alloc | apply Kept.drewN | apply Kept.drew | refine Kept.setCell ?_ (.inr GW279.out) _ | refine Kept.setCell ?_ (.inr GW280.out) _ | refine Kept.setCell ?_ (.inr GW281.out) _ | refine Kept.setCell ?_ (.inr GW290.out) _ | refine Kept.setCell ?_ (.inr GW292.out) _) | exact HK.out)).1 (fun k_ h_ => .inr h_)) (Kd.R_lt (by (with_reducible repeat (first | apply Kd.R_alloc | apply Kd.R_drewN | apply Kd.R_drew)); exact (Kd.R_mono (Kd.R_far (p := ⟨gb292, 1, none⟩) (Kd.R_far (p := ⟨gb292, 0, none⟩) (Kd.R_mono HO_7.out (fun k_ hk => (⟨hk, hk.2⟩ : _ ∧ k_ ≠ gb292))) (fun _ hk => hk.2) (.int .i64 ((rd_T24 l2 x37_2).f0))) (fun _ hk => hk.2) (.int .i64 ((rd_T24 l2 x37_2).f1))) (fun _ h_ => h_.1))))) (Kd.R_lt (by (with_reducible repeat (first | apply Kd.R_alloc | apply Kd.R_drewN | apply Kd.R_drew)); exact (Kd.R_mono (Kd.R_far (p := ⟨gb292, 1, none⟩) (Kd.R_far (p := ⟨gb292, 0, none⟩) (Kd.R_mono HO_280000.out (fun k_ hk => (⟨hk, hk.2⟩ : _ ∧ k_ ≠ gb292))) (fun _ hk => hk.2) (.int .i64 ((rd_T24 l2 x37_2).f0))) (fun _ hk => hk.2) (.int .i64 ((rd_T24 l2 x37_2).f1))) (fun _ h_ => h_.1))))) (g := gb280) (o := .cells #[.int .i64 a1_0, .int .i64 a1_1] 24 (0, 0)) blf_) (g := gb290) (o := .cells #[.int .i64 x291000_2, .int .i64 x291001_2] 24 (0, 0)) blf_) (g := gb292) (o := .cells #[.int .i64 ((rd_T24 l2 x37_2).f0), .int .i64 ((rd_T24 l2 x37_2).f1)] 24 (0, 0)) (by (with_reducible repeat (first | refine zN ?_ _ | refine zD ?_ | refine zA ?_ _)); refine blk_put (cs := #[.int .i64 ((rd_T24 l2 x37_2).f0), .int .i64 0]) ?_ 1 _ rfl; (with_reducible repeat (first | refine zN ?_ _ | refine zD ?_ | refine zA ?_ _)); refine blk_put (cs := #[.int .i64 0, .int .i64 0]) ?_ 0 _ rfl; (with_reducible repeat (first | refine zN ?_ _ | refine zD ?_ | refine zA ?_ _)); exact BK292.out)) (below_size bel_)); have n3_ := zM (blk_below (g := gb279) (o := .cells #[.slice Ao14 l0_0.length co14, .int .i64 a0_1, .int .i64 a0_2] 34 (0, 0)) blf_ hb); have n4_ := zM (blk_below (g := gb280) (o := .cells #[.int .i64 a1_0, .int .i64 a1_1] 24 (0, 0)) blf_ hb); have n5_ := zM (blk_below (g := gb281) (o := .cells #[.slice none 0 0, .int .i64 0, .int .i64 0] 34 (0, 0)) blf_ hb); have n6_ := zM (blk_below (g := gb290) (o := .cells #[.int .i64 x291000_2, .int .i64 x291001_2] 24 (0, 0)) blf_ hb); have n7_ := zM (blk_below (g := gb292) (o := .cells #[.int .i64 ((rd_T24 l2 x37_2).f0), .int .i64 ((rd_T24 l2 x37_2).f1)] 24 (0, 0)) (by (with_reducible repeat (first | refine zN ?_ _ | refine zD ?_ | refine zA ?_ _)); refine blk_put (cs := #[.int .i64 ((rd_T24 l2 x37_2).f0), .int .i64 0]) ?_ 1 _ rfl; (with_reducible repeat (first | refine zN ?_ _ | refine zD ?_ | refine zA ?_ _)); refine blk_put (cs := #[.int .i64 0, .int .i64 0]) ?_ 0 _ rfl; (with_reducible repeat (first | refine zN ?_ _ | refine zD ?_ | refine zA ?_ _)); exact BK292.out) hb); have n8_ := zM (Kept.below (S := (fun k_ => P0_0_ k_)) (by repeat (first | (with_reducible first | exact HK.out | apply Kept.alloc | apply Kept.drewN | apply Kept.drew | refine Kept.setCell ?_ (.inr GW279.out) _ | refine Kept.setCell ?_ (.inr GW280.out) _ | refine Kept.setCell ?_ (.inr GW281.out) _ | refine Kept.setCell ?_ (.inr GW290.out) _ | refine Kept.setCell ?_ (.inr GW292.out) _) | exact HK.out)) hb); have n9_ := zM (zB bel_ hb); clear HO_7; clear HO_280000; clear BK279; clear BK280; clear BK281; clear BK290; clear BK292; clear HK; clear HB; have HO_7 := n0_; have HO_280000 := n1_; have HO295 := n2_; have BK279 := n3_; have BK280 := n4_; have BK281 := n5_; have BK290 := n6_; have BK292 := n7_; have HK := n8_; have HB := n9_; clear n0_ n1_ n2_ n3_ n4_ n5_ n6_ n7_ n8_ n9_; clear hb ho70; obtain ⟨Ao71, co71, eo71⟩ := Kd.R_slice HO295.out; subst eo71) | ((with_reducible refine gate_callee (f := 25) rfl ?_); refine goL_ (some 45) Try.func25 #[.slice Ao71 y293.length co71] ?_; (with_reducible refine (ropewayref04_Join.calls k2 _ _ y293 t296 t297 _ ?side1 ?side2 A56.out).mono ?_); (case side1 => repeat (first | exact (Kd.R_reads' HO295.out).2.2 | (with_reducible refine Kd.C_alloc ?_ _) | (with_reducible refine Kd.C_drewN ?_ _) | (with_reducible refine Kd.C_drew ?_))); (case side2 => exact (Kd.R_reads' HO295.out).2.1); rintro e w72 ⟨rfl, hb⟩; refine ⟨_, rfl, ?_⟩; replace HO_7 := zM (Kd.R_below (rl_ HO_7) hb); replace HO_280000 := zM (Kd.R_below (rl_ HO_280000) hb); replace HO295 := zM (Kd.R_below (rl_ HO295) hb); replace BK279 := zM (bb_ BK279 hb); replace BK280 := zM (bb_ BK280 hb); replace BK281 := zM (bb_ BK281 hb); replace BK290 := zM (bb_ BK290 hb); replace BK292 := zM (bb_ BK292 hb); replace HK := zM (Kept.below (S := (fun k_ => P0_0_ k_)) (by repeat (first | (with_reducible first | exact HK.out | apply Kept.alloc | apply Kept.drewN | apply Kept.drew | refine Kept.setCell ?_ (.inr GW279.out) _ | refine Kept.setCell ?_ (.inr GW280.out) _ | refine Kept.setCell ?_ (.inr GW281.out) _ | refine Kept.setCell ?_ (.inr GW290.out) _ | refine Kept.setCell ?_ (.inr GW292.out) _) | exact HK.out)) hb); replace HB := zM (zB bel_ hb); (try clear hb); (try clear hb2); (try clear hk); (try clear hi)) | ((with_reducible refine gate_builtin (b := .append) (xs := #[.tmp 41, .tmp 46]) rfl ?_); at_builtin; refine Kd.R_append k24 (w0 := w0) w0.heap.size rfl (.tmp 41) (.tmp 46) 22 24 (.agg #[(.int .i64 0), (.int .i64 0)]) 16 rfl Try.underlying22 info24 rfl (by decide) (by omega) u7 x7_2 (⟨t296, t297⟩ : S24) [.int .i64 t296, .int .i64 t297] (fun k_ => (P0_0_ k_ ∨ w.heap.size ≤ k_) ∧ some k_ ≠ (.slice Ao14 l0_0.length co14 : Value).ownBlock ∧ some k_ ≠ (.slice Ao71 y293.length co71 : Value).ownBlock ∧ k_ ≠ gb280 ∧ k_ ≠ gb290 ∧ k_ ≠ gb292) (fun _ => False) rfl rfl ?aP (fun _ hk => hk.elim) ?aF ?aO ?aB ?aS ?aL ?_; (case aP => exact k24_mkM _ _ _ (⟨t296, t297⟩ : S24)); (case aB => exact bel_); (case aF => exact (fun k_ hk => ⟨(.inr (Nat.le_trans (by first | exact HK.out.1 | exact (show Kept w _ (fun k_ => P0_0_ k_) from by repeat (first | (with_reducible first | exact HK.out | apply Kept.alloc | apply Kept.drewN | apply Kept.drew | refine Kept.setCell ?_ (.inr GW279.out) _ | refine Kept.setCell ?_ (.inr GW280.out) _ | refine Kept.setCell ?_ (.inr GW281.out) _ | refine Kept.setCell ?_ (.inr GW290.out) _ | refine Kept.setCell ?_ (.inr GW292.out) _) | exact HK.out)).1) hk)), Kd.fresh' (Kd.R_lt (rl_ HO_280000)) k_ hk, Kd.fresh' (Kd.R_lt (rl_ HO295)) k_ hk, Kd.freshB (g := gb280) (o := .cells #[.int .i64 a1_0, .int .i64 a1_1] 24 (0, 0)) blk_ k_ hk, Kd.freshB (g := gb290) (o := .cells #[.int .i64 x291000_2, .int .i64 x291001_2] 24 (0, 0)) blk_ k_ hk, Kd.freshB (g := gb292) (o := .cells #[.int .i64 ((rd_T24 l2 x37_2).f0), .int .i64 ((rd_T24 l2 x37_2).f1)] 24 (0, 0)) blk_ k_ hk⟩)); (case aO => exact (by (with_reducible repeat (first | apply Kd.R_alloc | apply Kd.R_drewN | apply Kd.R_drew)); exact Kd.R_mono HO_7.out (fun _ hk => ⟨hk.1.1.1, ⟨hk.1.1.2.1, ⟨hk.2, ⟨hk.1.1.2.2.1, ⟨hk.1.1.2.2.2, hk.1.2⟩⟩⟩⟩⟩))); (case aS => exact (below_size bel_)); (case aL => have := LMc57.out; omega); intro v299 w73 ho hb hg hat; rw [← Ny298.out] at ho; have n0_ := zM (Kd.R_after (ok := (fun k_ => (P0_0_ k_ ∨ w.heap.size ≤ k_) ∧ some k_ ≠ (.slice Ao71 y293.length co71 : Value).ownBlock ∧ k_ ≠ gb280 ∧ k_ ≠ gb290 ∧ k_ ≠ gb292)) (by (with_reducible repeat (first | apply Kd.R_alloc | apply Kd.R_drewN | apply Kd.R_drew)); exact Kd.R_mono HO_280000.out (fun _ hk => ⟨⟨hk.1.1.1, ⟨hk.2, ⟨hk.1.1.2.2.1, ⟨hk.1.1.2.2.2, hk.1.2⟩⟩⟩⟩, hk.1.1.2.1⟩)) hg hat); have n1_ := zM (blk_grown (g := gb279) (o := .cells #[.slice Ao14 l0_0.length co14, .int .i64 a0_1, .int .i64 a0_2] 34 (0, 0)) blk_ hg (Kd.R_ne HO_7.out BK279.out (by decide))); have n2_ := zM (blk_grown (g := gb280) (o := .cells #[.int .i64 a1_0, .int .i64 a1_1] 24 (0, 0)) blk_ hg (Kd.R_away HO_7.out (fun _ hk => hk.1.1.2.2.1))); have n3_ := zM (blk_grown (g := gb281) (o := .cells #[.slice none 0 0, .int .i64 0, .int .i64 0] 34 (0, 0)) blk_ hg (Kd.R_ne HO_7.out BK281.out (by decide))); have n4_ := zM (blk_grown (g := gb290) (o := .cells #[.int .i64 x291000_2, .int .i64 x291001_2] 24 (0, 0)) blk_ hg (Kd.R_away HO_7.out (fun _ hk => hk.1.1.2.2.2))); have n5_ := zM (blk_grown (g := gb292) (o := .cells #[.int .i64 ((rd_T24 l2 x37_2).f0), .int .i64 ((rd_T24 l2 x37_2).f1)] 24 (0, 0)) blk_ hg (Kd.R_away HO_7.out (fun _ hk => hk.1.2))); have n6_ := zM (Kd.R_after (ok := (fun k_ => (P0_0_ k_ ∨ w.heap.size ≤ k_) ∧ some k_ ≠ (.slice Ao14 l0_0.length co14 : Value).ownBlock ∧ k_ ≠ gb280 ∧ k_ ≠ gb290 ∧ k_ ≠ gb292)) (by (with_reducible repeat (first | apply Kd.R_alloc | apply Kd.R_drewN | apply Kd.R_drew)); exact Kd.R_mono HO295.out (fun _ hk => ⟨⟨hk.1.1.1.1.1.1, ⟨hk.1.1.1.2, ⟨hk.1.1.2, ⟨hk.1.2, hk.2⟩⟩⟩⟩, hk.1.1.1.1.2⟩)) hg hat); have n7_ := zM (hb); have n8_ := zM (Kept.of_grown (S := (fun k_ => P0_0_ k_)) hg (by repeat (first | (with_reducible first | exact HK.out | apply Kept.alloc | apply Kept.drewN | apply Kept.drew | refine Kept.setCell ?_ (.inr GW279.out) _ | refine Kept.setCell ?_ (.inr GW280.out) _ | refine Kept.setCell ?_ (.inr GW281.out) _ | refine Kept.setCell ?_ (.inr GW290.out) _ | refine Kept.setCell ?_ (.inr GW292.out) _) | exact HK.out)) (fun k_ e_ => (HO_7.out.1 k_ e_).1.1.1)); have n9_ := zM (ho); clear HO_280000; clear BK279; clear BK280; clear BK281; clear BK290; clear BK292; clear HO295; clear HB; clear HK; clear HO_7; have HO_280000 := n0_; have BK279 := n1_; have BK280 := n2_; have BK281 := n3_; have BK290 := n4_; have BK292 := n5_; have HO295 := n6_; have HB := n7_; have HK := n8_; have HO300 := n9_; clear n0_ n1_ n2_ n3_ n4_ n5_ n6_ n7_ n8_ n9_; clear ho hb hg hat; have hnb74 := NB290_279.out; have hnc74 := NB279_290.out; have hnb75 := NB290_281.out; have hnc75 := NB281_290.out; have hcz76_0 : w73.cell? ⟨gb290, 0, none⟩ = some (.int .i64 x291000_2) := (zL BK290.out 0).trans rfl; have hcz76_1 : w73.cell? ⟨gb290, 1, none⟩ = some (.int .i64 x291001_2) := (zL BK290.out 1).trans rfl; have hfz76_0 := zF BK290.out 0; have hfz76_1 := zF BK290.out 1; have hcz77_0 : w73.cell? ⟨gb292, 0, none⟩ = some (.int .i64 ((rd_T24 l2 x37_2).f0)) := (zL BK292.out 0).trans rfl; have hcz77_1 : w73.cell? ⟨gb292, 1, none⟩ = some (.int .i64 ((rd_T24 l2 x37_2).f1)) := (zL BK292.out 1).trans rfl; have hfz77_0 := zF BK292.out 0; have hfz77_1 := zF BK292.out 1) | ((with_reducible refine gate_dst (N := 50) rfl ?_); refine Kd.R_lit k24 _ 24 ?hg (N := 50) ?hd (xs := ([(⟨x291000_2, x291001_2⟩ : S24), (⟨(rd_T24 l2 x37_2).f0, (rd_T24 l2 x37_2).f1⟩ : S24)] : List (S24))) (inner := [.int .i64 x291000_2, .int .i64 x291001_2, .int .i64 ((rd_T24 l2 x37_2).f0), .int .i64 ((rd_T24 l2 x37_2).f1)]) (ok := fun _ => True) (okp := fun _ => True) ?hr ?hp (fun _ hk => hk) trivial (Below.refl _ _) (Nat.le_refl _) (by simp) ?_; (case hd => rfl); (case hg => rfl); (case hr => first | (go_simp; done) | (go_simp; rfl)); (case hp => exact (Reps.c2 (show Kd.M k24 _ _ _ (⟨x291000_2, x291001_2⟩ : S24) [.int .i64 x291000_2, .int .i64 x291001_2] from (k24_mkM _ _ _ (⟨x291000_2, x291001_2⟩ : S24) )) (Reps.c2 (show Kd.M k24 _ _ _ (⟨(rd_T24 l2 x37_2).f0, (rd_T24 l2 x37_2).f1⟩ : S24) [.int .i64 ((rd_T24 l2 x37_2).f0), .int .i64 ((rd_T24 l2 x37_2).f1)] from (k24_mkM _ _ _ (⟨(rd_T24 l2 x37_2).f0, (rd_T24 l2 x37_2).f1⟩ : S24) )) (Reps.none _ _)))); intro v302 w78 ho79 hb hg_ hnew_; clear hg_ hnew_; (first | rw [← Ny301.out] at ho79 | (simp only [Int.reduceToNat] at ho79; rw [← Ny301.out] at ho79)); have HO303 := zM (Kd.R_lower (Kd.R_newB (Kd.R_newB (Kd.R_newB (Kd.R_new' (Kd.R_new' (Kd.R_new' (Kd.R_newM (M := fun k_ => (P0_0_ k_ ∨ w.heap.size ≤ k_)) ho79 (by first | exact HK.out.1 | exact (show Kept w _ (fun k_ => P0_0_ k_) from by repeat (first | (with_reducible first | exact HK.out | apply Kept.alloc | apply Kept.drewN | apply Kept.drew | refine Kept.setCell ?_ (.inr GW279.out) _ | refine Kept.setCell ?_ (.inr GW280.out) _ | refine Kept.setCell ?_ (.inr GW281.out) _ | refine Kept.setCell ?_ (.inr GW290.out) _ | refine Kept.setCell ?_ (.inr GW292.out) _) | exact HK.out)).1) (fun k_ h_ => .inr h_)) (Kd.R_lt (rl_ HO_280000))) (Kd.R_lt (rl_ HO295))) (Kd.R_lt (rl_ HO300))) (g := gb280) (o := .cells #[.int .i64 a1_0, .int .i64 a1_1] 24 (0, 0)) blk_) (g := gb290) (o := .cells #[.int .i64 x291000_2, .int .i64 x291001_2] 24 (0, 0)) blk_) (g := gb292) (o := .cells #[.int .i64 ((rd_T24 l2 x37_2).f0), .int .i64 ((rd_T24 l2 x37_2).f1)] 24 (0, 0)) blk_) (below_size bel_)); replace HO_280000 := zM (Kd.R_elder' (rl_ HO_280000) (Kd.R_base ho79) hb); replace HO295 := zM (Kd.R_elder' (rl_ HO295) (Kd.R_base ho79) hb); replace HO300 := zM (Kd.R_elder' (rl_ HO300) (Kd.R_base ho79) hb); replace BK279 := zM (bb_ BK279 hb); replace BK280 := zM (bb_ BK280 hb); replace BK281 := zM (bb_ BK281 hb); replace BK290 := zM (bb_ BK290 hb); replace BK292 := zM (bb_ BK292 hb); replace HK := zM (Kept.below (S := (fun k_ => P0_0_ k_)) (by repeat (first | (with_reducible first | exact HK.out | apply Kept.alloc | apply Kept.drewN | apply Kept.drew | refine Kept.setCell ?_ (.inr GW279.out) _ | refine Kept.setCell ?_ (.inr GW280.out) _ | refine Kept.setCell ?_ (.inr GW281.out) _ | refine Kept.setCell ?_ (.inr GW290.out) _ | refine Kept.setCell ?_ (.inr GW292.out) _) | exact HK.out)) hb); replace HB := zM (zB bel_ hb); clear hb ho79; obtain ⟨Ao80, co80, eo80⟩ := Kd.R_slice HO303.out; subst eo80) | ((with_reducible refine gate_callee (f := 25) rfl ?_); refine goL_ (some 51) Try.func25 #[.slice Ao80 y301.length co80] ?_; (with_reducible refine (ropewayref04_Join.calls k2 _ _ y301 t304 t305 _ ?side1 ?side2 A58.out).mono ?_); (case side1 => repeat (first | exact (Kd.R_reads' HO303.out).2.2 | (with_reducible refine Kd.C_alloc ?_ _) | (with_reducible refine Kd.C_drewN ?_ _) | (with_reducible refine Kd.C_drew ?_))); (case side2 => exact (Kd.R_reads' HO303.out).2.1); rintro e w81 ⟨rfl, hb⟩; refine ⟨_, rfl, ?_⟩; replace HO_280000 := zM (Kd.R_below (rl_ HO_280000) hb); replace HO295 := zM (Kd.R_below (rl_ HO295) hb); replace HO300 := zM (Kd.R_below (rl_ HO300) hb); replace HO303 := zM (Kd.R_below (rl_ HO303) hb); replace BK279 := zM (bb_ BK279 hb); replace BK280 := zM (bb_ BK280 hb); replace BK281 := zM (bb_ BK281 hb); replace BK290 := zM (bb_ BK290 hb); replace BK292 := zM (bb_ BK292 hb); replace HK := zM (Kept.below (S := (fun k_ => P0_0_ k_)) (by repeat (first | (with_reducible first | exact HK.out | apply Kept.alloc | apply Kept.drewN | apply Kept.drew | refine Kept.setCell ?_ (.inr GW279.out) _ | refine Kept.setCell ?_ (.inr GW280.out) _ | refine Kept.setCell ?_ (.inr GW281.out) _ | refine Kept.setCell ?_ (.inr GW290.out) _ | refine Kept.setCell ?_ (.inr GW292.out) _) | exact HK.out)) hb); replace HB := zM (zB bel_ hb); (try clear hb); (try clear hb2); (try clear hk); (try clear hi); have hcz82_0 : w81.cell? ⟨gb290, 0, none⟩ = some (.int .i64 x291000_2) := (zL BK290.out 0).trans rfl; have hcz82_1 : w81.cell? ⟨gb290, 1, none⟩ = some (.int .i64 x291001_2) := (zL BK290.out 1).trans rfl; have hfz82_0 := zF BK290.out 0; have hfz82_1 := zF BK290.out 1))
      go_roundg k2
      case measure => have := HK1.out; have := HK2.out; omega
      case rel => exact ⟨(y298), (wrap64 (x37_2 + 1)), (t304), (t305), (by first | rfl | (simp; done) | (simp [*]; done) | (simp; grind)), H', ⟨by have := HK1.out; have := HK2.out; omega⟩, ⟨by (with_reducible repeat (first | apply Kd.R_alloc | apply Kd.R_drewN | apply Kd.R_drew)); exact Kd.R_mono (Kd.R_far (p := ⟨gb290, 1, none⟩) (Kd.R_far (p := ⟨gb290, 0, none⟩) (Kd.R_mono HO300.out (fun k_ hk => (⟨hk, hk.1.2.2.2.2.1⟩ : _ ∧ k_ ≠ gb290))) (fun _ hk => hk.2) (.int .i64 t304)) (fun _ hk => hk.2) (.int .i64 t305)) (fun _ hk => ⟨hk.1.1.1, ⟨hk.1.1.2.1, ⟨hk.1.1.2.2.2.1, hk.1.1.2.2.2.2.1⟩⟩⟩)⟩, ⟨by (with_reducible repeat (first | apply Kd.R_alloc | apply Kd.R_drewN | apply Kd.R_drew)); exact Kd.R_mono (Kd.R_far (p := ⟨gb290, 1, none⟩) (Kd.R_far (p := ⟨gb290, 0, none⟩) (Kd.R_mono HO_280000.out (fun k_ hk => (⟨hk, hk.1.1.2.2.2.1⟩ : _ ∧ k_ ≠ gb290))) (fun _ hk => hk.2) (.int .i64 t304)) (fun _ hk => hk.2) (.int .i64 t305)) (fun _ hk => ⟨hk.1.1.1.1, ⟨hk.1.1.2, ⟨hk.1.1.1.2.2.1, hk.1.1.1.2.2.2.1⟩⟩⟩)⟩, ⟨blf_⟩, ⟨blf_⟩, ⟨blf_⟩, ⟨by (with_reducible repeat (first | refine zN ?_ _ | refine zD ?_ | refine zA ?_ _)); refine blk_put (cs := #[.int .i64 t304, .int .i64 x291001_2]) ?_ 1 _ rfl; (with_reducible repeat (first | refine zN ?_ _ | refine zD ?_ | refine zA ?_ _)); refine blk_put (cs := #[.int .i64 x291000_2, .int .i64 x291001_2]) ?_ 0 _ rfl; (with_reducible repeat (first | refine zN ?_ _ | refine zD ?_ | refine zA ?_ _)); exact BK290.out⟩, ⟨by repeat (first | (with_reducible first | exact HK.out | apply Kept.alloc | apply Kept.drewN | apply Kept.drew | refine Kept.setCell ?_ (.inr GW279.out) _ | refine Kept.setCell ?_ (.inr GW280.out) _ | refine Kept.setCell ?_ (.inr GW281.out) _ | refine Kept.setCell ?_ (.inr GW290.out) _ | refine Kept.setCell ?_ (.inr GW292.out) _) | exact HK.out)⟩, ⟨bel_⟩⟩
/-! ### ropewayref16_Least: function 17 -/
def ropewayref16_Least.l0 : Nat → List (S24) → Int → Int → Int → Int → Option (Int × Int)
  | 0, _, _, _, _, _ => none
  | k + 1, x8, x9, x10, x312000, x312001 => if x10 < x9 then (if 0 ≤ x10 then (if x10 < (x8.length : Int) then (if x10 = 0 then (ropewayref16_Least.l0 k x8 x9 (wrap64 (x10 + 1)) ((rd_T24 x8 x10).f0) ((rd_T24 x8 x10).f1)) else ((ropewayref05_Less.f k ((rd_T24 x8 x10).f0) ((rd_T24 x8 x10).f1) x312000 x312001).bind fun t314 => (if t314 = true then (ropewayref16_Least.l0 k x8 x9 (wrap64 (x10 + 1)) ((rd_T24 x8 x10).f0) ((rd_T24 x8 x10).f1)) else (ropewayref16_Least.l0 k x8 x9 (wrap64 (x10 + 1)) x312000 x312001)))) else (none)) else (none)) else (some (x312000, x312001))
def ropewayref16_Least.f (k : Nat) (l0_0 : List (S24)) (a0_1 : Int) (a0_2 : Int) : Option (Int × Int) := ropewayref16_Least.l0 k l0_0 (l0_0.length : Int) 0 0 0
theorem ropewayref16_Least.mono_l : ∀ k, (∀ y0 y1 y2 y3 y4, LeO (ropewayref16_Least.l0 k y0 y1 y2 y3 y4) (ropewayref16_Least.l0 (k + 1) y0 y1 y2 y3 y4))
  | 0 => fun _ _ _ _ _ r h => by simp [ropewayref16_Least.l0] at h
  | k + 1 => by
    have ih0 := ropewayref16_Least.mono_l k
    · intro y0 y1 y2 y3 y4
      unfold ropewayref16_Least.l0
      repeat' first
      | (with_reducible exact ih0 _ _ _ _ _)
      | (with_reducible exact ropewayref05_Less.mono _ _ _ _ _)
      | (with_reducible exact LeO.refl _)
      | (with_reducible exact LeO.none _)
      | (with_reducible refine LeO.ite ?_ ?_)
      | (with_reducible refine LeO.bind ?_ (fun _ => ?_))
      | exact ih0 _ _ _ _ _
      | exact ropewayref05_Less.mono _ _ _ _ _
      | exact LeO.none _
      | refine LeO.ite ?_ ?_
      | refine LeO.bind ?_ (fun _ => ?_)
theorem ropewayref16_Least.mono : ∀ a0 a1 a2 k, LeO (ropewayref16_Least.f k a0 a1 a2) (ropewayref16_Least.f (k + 1) a0 a1 a2) := by
  intro a0 a1 a2 k
  have ih0 := ropewayref16_Least.mono_l k
  unfold ropewayref16_Least.f
  repeat' first
      | (with_reducible exact ih0 _ _ _ _ _)
      | (with_reducible exact ropewayref05_Less.mono _ _ _ _ _)
      | (with_reducible exact LeO.refl _)
      | (with_reducible exact LeO.none _)
      | (with_reducible refine LeO.ite ?_ ?_)
      | (with_reducible refine LeO.bind ?_ (fun _ => ?_))
      | exact ih0 _ _ _ _ _
      | exact ropewayref05_Less.mono _ _ _ _ _
      | exact LeO.none _
      | refine LeO.ite ?_ ?_
      | refine LeO.bind ?_ (fun _ => ?_)
set_option maxHeartbeats 8000000 in
set_option maxRecDepth 100000 in
theorem ropewayref16_Least.calls (k : Nat) (A0_0 : Option Addr) (c0_0 : Nat) (l0_0 : List (S24)) (a0_1 : Int) (a0_2 : Int) (r1 : Int) (r2 : Int) (w : World) (hr0_0 : Kd.C k24 w A0_0 l0_0.length l0_0) (hc0_0 : l0_0.length ≤ c0_0) (h : ropewayref16_Least.f k l0_0 a0_1 a0_2 = some (r1, r2)) :
    Calls Try.prog 17 #[.agg #[.slice A0_0 l0_0.length c0_0, .int .i64 a0_1, .int .i64 a0_2]] w fun e w' => e = .returned (.agg #[.int .i64 r1, .int .i64 r2]) ∧ Below w.heap.size w w' := by
  have hu34 := Try.underlying34
  have hu24 := Try.underlying24
  have HR0_0 := zM hr0_0
  have HC0_0 := zM hc0_0
  clear hr0_0 hc0_0
  have HB := zM (Below.refl w.heap.size w)
  have H : (ropewayref16_Least.l0 k l0_0 (l0_0.length : Int) 0 0 0) = some (r1, r2) := h
  clear h
  have H' := zM H
  clear H
  go_enter Try.func17, Try.ntmps17
  go_wp2_with (first | ((with_reducible refine gate_dst (N := 1) rfl ?_); refine box_event ?hg (N := 1) ?hd (cs := #[.slice A0_0 l0_0.length c0_0, .int .i64 a0_1, .int .i64 a0_2]) (t := 34) ?hr ?_; (case hd => rfl); (case hg => rfl); (case hr => first | (go_simp; done) | (go_simp; rfl)); intro gb309 hg w2 hbox hb; have BK309 := zM (hbox); have GW309 := zM (bs_ hg); have GE309 := zM (bs_ hg); replace HB := zM (zB bel_ hb); clear hb hbox hg) | ((with_reducible refine gate_dst (N := 2) rfl ?_); refine box_event ?hg (N := 2) ?hd (cs := #[.int .i64 0, .int .i64 0]) (t := 24) ?hr ?_; (case hd => rfl); (case hg => rfl); (case hr => first | (go_simp; done) | (go_simp; rfl)); intro gb310 hg w3 hbox hb; have BK310 := zM (hbox); have GW310 := zM (bs_ hg); have GE310 := zM (bs_ hg); replace HB := zM (zB bel_ hb); have NB309_310 := zM (nl_ BK309 hg); have NB310_309 := zM (ng_ BK309 hg); replace BK309 := zM (bb_ BK309 hb); clear hb hbox hg) | ((with_reducible refine gate_dst (N := 3) rfl ?_); refine box_event ?hg (N := 3) ?hd (cs := #[.int .i64 0, .int .i64 0]) (t := 24) ?hr ?_; (case hd => rfl); (case hg => rfl); (case hr => first | (go_simp; done) | (go_simp; rfl)); intro gb311 hg w4 hbox hb; have BK311 := zM (hbox); have GW311 := zM (bs_ hg); have GE311 := zM (bs_ hg); replace HB := zM (zB bel_ hb); have NB309_311 := zM (nl_ BK309 hg); have NB311_309 := zM (ng_ BK309 hg); replace BK309 := zM (bb_ BK309 hb); have NB310_311 := zM (nl_ BK310 hg); have NB311_310 := zM (ng_ BK310 hg); replace BK310 := zM (bb_ BK310 hb); clear hb hbox hg; have hnb5 := NB311_309.out; have hnc5 := NB309_311.out; have hnb6 := NB311_310.out; have hnc6 := NB310_311.out; have hcz7_0 : w4.cell? ⟨gb311, 0, none⟩ = some (.int .i64 0) := (zL BK311.out 0).trans rfl; have hcz7_1 : w4.cell? ⟨gb311, 1, none⟩ = some (.int .i64 0) := (zL BK311.out 1).trans rfl; have hfz7_0 := zF BK311.out 0; have hfz7_1 := zF BK311.out 1; have hnb8 := NB309_310.out; have hnc8 := NB310_309.out; have hcz9_0 : w4.cell? ⟨gb309, 0, none⟩ = some (.slice A0_0 l0_0.length c0_0) := (zL BK309.out 0).trans rfl; have hcz9_1 : w4.cell? ⟨gb309, 1, none⟩ = some (.int .i64 a0_1) := (zL BK309.out 1).trans rfl; have hcz9_2 : w4.cell? ⟨gb309, 2, none⟩ = some (.int .i64 a0_2) := (zL BK309.out 2).trans rfl; have hfz9_0 := zF BK309.out 0; have hfz9_1 := zF BK309.out 1; have hfz9_2 := zF BK309.out 2))
  go_loopg [10] k (fun kq v10 w' => ∃ (x10_1 : Int) (x312000_1 : Int) (x312001_1 : Int), v10 = .int .i64 x10_1 ∧ Aside0 (ropewayref16_Least.l0 kq l0_0 (l0_0.length : Int) x10_1 x312000_1 x312001_1 = some (r1, r2)) ∧ Aside0 (kq ≤ k) ∧ Aside0 (w'.heap[gb309]? = some (.cells #[(.slice A0_0 l0_0.length c0_0), .int .i64 a0_1, .int .i64 a0_2] 34 (0, 0))) ∧ Aside0 (w'.heap[gb310]? = some (.cells #[.int .i64 0, .int .i64 0] 24 (0, 0))) ∧ Aside0 (w'.heap[gb311]? = some (.cells #[.int .i64 x312000_1, .int .i64 x312001_1] 24 (0, 0))) ∧ Aside0 (Below w.heap.size w w'))
  case atStart => exact ⟨(0), (0), (0), (by first | rfl | (simp; done) | (simp [*]; done) | (simp; grind)), H', ⟨Nat.le_refl _⟩, ⟨blf_⟩, ⟨blf_⟩, ⟨by (with_reducible repeat (first | refine zN ?_ _ | refine zD ?_ | refine zA ?_ _)); refine blk_put (cs := #[.int .i64 0, .int .i64 0]) ?_ 1 _ rfl; (with_reducible repeat (first | refine zN ?_ _ | refine zD ?_ | refine zA ?_ _)); refine blk_put (cs := #[.int .i64 0, .int .i64 0]) ?_ 0 _ rfl; (with_reducible repeat (first | refine zN ?_ _ | refine zD ?_ | refine zA ?_ _)); exact BK311.out⟩, ⟨bel_⟩⟩
  case round =>
   clear H'
   try clear c1
   try clear p2
   try clear c5
   try clear c6
   try clear c8
   try clear hcz7_0
   try clear hcz7_1
   try clear hcz9_0
   try clear hcz9_1
   try clear hcz9_2
   try clear hfz7_0
   try clear hfz7_1
   try clear hfz9_0
   try clear hfz9_1
   try clear hfz9_2
   obtain ⟨x10_1, x312000_1, x312001_1, rfl, HA, HK1, BK309, BK310, BK311, HB⟩ := hrel
   cases gk with
   | zero => exact absurd HA.out (by simp [ropewayref16_Least.l0])
   | succ k1 =>
    have H := HA.out
    clear HA
    simp only [ropewayref16_Least.l0] at H
    by_cases c10 : x10_1 < (l0_0.length : Int)
    rotate_left
    · rw [if_neg c10] at H
      have c10b0 : decide (x10_1 < (l0_0.length : Int)) = false := decide_eq_false c10
      clear c10
      simp only [Option.some.injEq, Prod.mk.injEq] at H
      obtain ⟨rfl, rfl⟩ := H
      have hnb44 := NB311_309.out
      have hnc44 := NB309_311.out
      have hnb45 := NB311_310.out
      have hnc45 := NB310_311.out
      have hcz46_0 : wr.cell? ⟨gb311, 0, none⟩ = some (.int .i64 x312000_1) := (zL BK311.out 0).trans rfl
      have hcz46_1 : wr.cell? ⟨gb311, 1, none⟩ = some (.int .i64 x312001_1) := (zL BK311.out 1).trans rfl
      have hfz46_0 := zF BK311.out 0
      have hfz46_1 := zF BK311.out 1
      have hnb47 := NB310_309.out
      have hnc47 := NB309_310.out
      have hcz48_0 : wr.cell? ⟨gb310, 0, none⟩ = some (.int .i64 0) := (zL BK310.out 0).trans rfl
      have hcz48_1 : wr.cell? ⟨gb310, 1, none⟩ = some (.int .i64 0) := (zL BK310.out 1).trans rfl
      have hfz48_0 := zF BK310.out 0
      have hfz48_1 := zF BK310.out 1
      go_wp2
      refine bodyPost_ret (results_cell_row rfl _ _ gb310 24 #[.int .i64 x312000_1, .int .i64 x312001_1] (0, 0) _ rfl (by (with_reducible repeat (first | refine zN ?_ _ | refine zD ?_ | refine zA ?_ _)); refine blk_put (cs := #[.int .i64 x312000_1, .int .i64 0]) ?_ 1 _ rfl; (with_reducible repeat (first | refine zN ?_ _ | refine zD ?_ | refine zA ?_ _)); refine blk_put (cs := #[.int .i64 0, .int .i64 0]) ?_ 0 _ rfl; (with_reducible repeat (first | refine zN ?_ _ | refine zD ?_ | refine zA ?_ _)); exact BK310.out) Try.underlying24 rfl (by kernel_rfl)) rfl ?_
      exact ⟨by first | rfl | (simp [errW_none, errW_some] <;> rfl) | (simp [*, errW_none, errW_some] <;> rfl), bel_⟩
    rw [if_pos c10] at H
    have c10b0 : decide (x10_1 < (l0_0.length : Int)) = true := decide_eq_true c10
    clear c10
    by_cases c11 : 0 ≤ x10_1
    rotate_left
    · rw [if_neg c11] at H
      exact absurd H (by simp)
    rw [if_pos c11] at H
    have c11b0 : decide (0 ≤ x10_1) = true := decide_eq_true c11
    clear c11
    by_cases c12 : x10_1 < (l0_0.length : Int)
    rotate_left
    · rw [if_neg c12] at H
      exact absurd H (by simp)
    rw [if_pos c12] at H
    have c12b0 : decide (x10_1 < (l0_0.length : Int)) = true := decide_eq_true c12
    clear c12
    by_cases c13 : x10_1 = 0
    · rw [if_pos c13] at H
      have c13b0 : (x10_1 == 0) = true := beq_iff_eq.mpr c13
      have c13b1 : (x10_1 != 0) = false := bne_eq_false_iff_eq.mpr c13
      clear c13
      have H' := zM H
      clear H
      have p312 : 0 ≤ (x10_1 : Int) := of_decide_eq_true (by first | (with_reducible assumption) | assumption)
      have q312 : x10_1 < (l0_0.length : Int) := of_decide_eq_true (by first | (with_reducible assumption) | assumption)
      obtain ⟨ad312, e312, hx312_0, hx312_1⟩ := at_T24 HR0_0.out x10_1 p312 q312
      cases e312
      replace hx312_0 := (HB.out.cell (World.block_lt_of_cell? w _ hx312_0)).trans hx312_0
      replace hx312_1 := (HB.out.cell (World.block_lt_of_cell? w _ hx312_1)).trans hx312_1
      replace p312 := eq_true p312
      replace q312 := eq_true q312
      go_wp2_with (first | ((with_reducible refine gate_dst (N := 5) rfl ?_); refine box_event ?hg (N := 5) ?hd (cs := #[.int .i64 0, .int .i64 0]) (t := 24) ?hr ?_; (case hd => rfl); (case hg => rfl); (case hr => first | (go_simp; done) | (go_simp; rfl)); intro gb313 hg w14 hbox hb; have BK313 := zM (hbox); have GW313 := zM (bs_ hg); have GE313 := zM (bs_ hg); replace HB := zM (zB bel_ hb); have NB309_313 := zM (nl_ BK309 hg); have NB313_309 := zM (ng_ BK309 hg); replace BK309 := zM (bb_ BK309 hb); have NB310_313 := zM (nl_ BK310 hg); have NB313_310 := zM (ng_ BK310 hg); replace BK310 := zM (bb_ BK310 hb); have NB311_313 := zM (nl_ BK311 hg); have NB313_311 := zM (ng_ BK311 hg); replace BK311 := zM (bb_ BK311 hb); clear hb hbox hg; have hnb15 := NB313_309.out; have hnc15 := NB309_313.out; have hnb16 := NB313_310.out; have hnc16 := NB310_313.out; have hnb17 := NB313_311.out; have hnc17 := NB311_313.out; have hcz18_0 : w14.cell? ⟨gb313, 0, none⟩ = some (.int .i64 0) := (zL BK313.out 0).trans rfl; have hcz18_1 : w14.cell? ⟨gb313, 1, none⟩ = some (.int .i64 0) := (zL BK313.out 1).trans rfl; have hfz18_0 := zF BK313.out 0; have hfz18_1 := zF BK313.out 1; have hnb19 := NB311_309.out; have hnc19 := NB309_311.out; have hnb20 := NB311_310.out; have hnc20 := NB310_311.out; have hcz21_0 : w14.cell? ⟨gb311, 0, none⟩ = some (.int .i64 x312000_1) := (zL BK311.out 0).trans rfl; have hcz21_1 : w14.cell? ⟨gb311, 1, none⟩ = some (.int .i64 x312001_1) := (zL BK311.out 1).trans rfl; have hfz21_0 := zF BK311.out 0; have hfz21_1 := zF BK311.out 1))
      go_roundg k1
      case measure => have := HK1.out; omega
      case rel => exact ⟨(wrap64 (x10_1 + 1)), ((rd_T24 l0_0 x10_1).f0), ((rd_T24 l0_0 x10_1).f1), (by first | rfl | (simp; done) | (simp [*]; done) | (simp; grind)), H', ⟨by have := HK1.out; omega⟩, ⟨blf_⟩, ⟨blf_⟩, ⟨by (with_reducible repeat (first | refine zN ?_ _ | refine zD ?_ | refine zA ?_ _)); refine blk_put (cs := #[.int .i64 ((rd_T24 l0_0 x10_1).f0), .int .i64 x312001_1]) ?_ 1 _ rfl; (with_reducible repeat (first | refine zN ?_ _ | refine zD ?_ | refine zA ?_ _)); refine blk_put (cs := #[.int .i64 x312000_1, .int .i64 x312001_1]) ?_ 0 _ rfl; (with_reducible repeat (first | refine zN ?_ _ | refine zD ?_ | refine zA ?_ _)); refine blk_far ?_ NB311_313.out _; (with_reducible repeat (first | refine zN ?_ _ | refine zD ?_ | refine zA ?_ _)); refine blk_far ?_ NB311_313.out _; (with_reducible repeat (first | refine zN ?_ _ | refine zD ?_ | refine zA ?_ _)); exact BK311.out⟩, ⟨bel_⟩⟩
    rw [if_neg c13] at H
    have c13b0 : (x10_1 == 0) = false := beq_eq_false_iff_ne.mpr c13
    have c13b1 : (x10_1 != 0) = true := bne_iff_ne.mpr c13
    replace H := Option.bind_eq_some_iff.mp H
    obtain ⟨t314, A220, H⟩ := H
    replace H : (if t314 = true then (ropewayref16_Least.l0 k1 l0_0 (l0_0.length : Int) (wrap64 (x10_1 + 1)) ((rd_T24 l0_0 x10_1).f0) ((rd_T24 l0_0 x10_1).f1)) else (ropewayref16_Least.l0 k1 l0_0 (l0_0.length : Int) (wrap64 (x10_1 + 1)) x312000_1 x312001_1)) = some (r1, r2) := H
    have A22 := zM A220
    clear A220
    by_cases c23 : t314 = true
    rotate_left
    · replace c23 := Bool.eq_false_iff.mpr c23
      subst c23
      have H1 : (ropewayref16_Least.l0 k1 l0_0 (l0_0.length : Int) (wrap64 (x10_1 + 1)) x312000_1 x312001_1) = some (r1, r2) := by rw [if_neg (show ¬ (false = true) by decide)] at H; exact H
      clear H
      have H := H1
      clear H1
      have H' := zM H
      clear H
      have p312 : 0 ≤ (x10_1 : Int) := of_decide_eq_true (by first | (with_reducible assumption) | assumption)
      have q312 : x10_1 < (l0_0.length : Int) := of_decide_eq_true (by first | (with_reducible assumption) | assumption)
      obtain ⟨ad312, e312, hx312_0, hx312_1⟩ := at_T24 HR0_0.out x10_1 p312 q312
      cases e312
      replace hx312_0 := (HB.out.cell (World.block_lt_of_cell? w _ hx312_0)).trans hx312_0
      replace hx312_1 := (HB.out.cell (World.block_lt_of_cell? w _ hx312_1)).trans hx312_1
      replace p312 := eq_true p312
      replace q312 := eq_true q312
      go_wp2_with (first | ((with_reducible refine gate_dst (N := 5) rfl ?_); refine box_event ?hg (N := 5) ?hd (cs := #[.int .i64 0, .int .i64 0]) (t := 24) ?hr ?_; (case hd => rfl); (case hg => rfl); (case hr => first | (go_simp; done) | (go_simp; rfl)); intro gb313 hg w35 hbox hb; have BK313 := zM (hbox); have GW313 := zM (bs_ hg); have GE313 := zM (bs_ hg); replace HB := zM (zB bel_ hb); have NB309_313 := zM (nl_ BK309 hg); have NB313_309 := zM (ng_ BK309 hg); replace BK309 := zM (bb_ BK309 hb); have NB310_313 := zM (nl_ BK310 hg); have NB313_310 := zM (ng_ BK310 hg); replace BK310 := zM (bb_ BK310 hb); have NB311_313 := zM (nl_ BK311 hg); have NB313_311 := zM (ng_ BK311 hg); replace BK311 := zM (bb_ BK311 hb); clear hb hbox hg; have hnb36 := NB313_309.out; have hnc36 := NB309_313.out; have hnb37 := NB313_310.out; have hnc37 := NB310_313.out; have hnb38 := NB313_311.out; have hnc38 := NB311_313.out; have hcz39_0 : w35.cell? ⟨gb313, 0, none⟩ = some (.int .i64 0) := (zL BK313.out 0).trans rfl; have hcz39_1 : w35.cell? ⟨gb313, 1, none⟩ = some (.int .i64 0) := (zL BK313.out 1).trans rfl; have hfz39_0 := zF BK313.out 0; have hfz39_1 := zF BK313.out 1; have hnb40 := NB311_309.out; have hnc40 := NB309_311.out; have hnb41 := NB311_310.out; have hnc41 := NB310_311.out; have hcz42_0 : w35.cell? ⟨gb311, 0, none⟩ = some (.int .i64 x312000_1) := (zL BK311.out 0).trans rfl; have hcz42_1 : w35.cell? ⟨gb311, 1, none⟩ = some (.int .i64 x312001_1) := (zL BK311.out 1).trans rfl; have hfz42_0 := zF BK311.out 0; have hfz42_1 := zF BK311.out 1) | (go_at_call 29; (with_reducible refine (ropewayref05_Less.calls k1 ((rd_T24 l0_0 x10_1).f0) ((rd_T24 l0_0 x10_1).f1) x312000_1 x312001_1 false _ A22.out).mono ?_); rintro e w43 ⟨rfl, hb⟩; have n0_ := zM (blk_below (g := gb309) (o := .cells #[.slice (some ad312) l0_0.length c0_0, .int .i64 a0_1, .int .i64 a0_2] 34 (0, 0)) blf_ hb); have n1_ := zM (blk_below (g := gb310) (o := .cells #[.int .i64 0, .int .i64 0] 24 (0, 0)) blf_ hb); have n2_ := zM (blk_below (g := gb311) (o := .cells #[.int .i64 x312000_1, .int .i64 x312001_1] 24 (0, 0)) blf_ hb); have n3_ := zM (blk_below (g := gb313) (o := .cells #[.int .i64 ((rd_T24 l0_0 x10_1).f0), .int .i64 ((rd_T24 l0_0 x10_1).f1)] 24 (0, 0)) (by (with_reducible repeat (first | refine zN ?_ _ | refine zD ?_ | refine zA ?_ _)); refine blk_put (cs := #[.int .i64 ((rd_T24 l0_0 x10_1).f0), .int .i64 0]) ?_ 1 _ rfl; (with_reducible repeat (first | refine zN ?_ _ | refine zD ?_ | refine zA ?_ _)); refine blk_put (cs := #[.int .i64 0, .int .i64 0]) ?_ 0 _ rfl; (with_reducible repeat (first | refine zN ?_ _ | refine zD ?_ | refine zA ?_ _)); exact BK313.out) hb); have n4_ := zM (zB bel_ hb); clear BK309; clear BK310; clear BK311; clear BK313; clear HB; have BK309 := n0_; have BK310 := n1_; have BK311 := n2_; have BK313 := n3_; have HB := n4_; clear n0_ n1_ n2_ n3_ n4_; (try clear hb); (try clear hb2); (try clear hk); (try clear hi)))
      go_roundg k1
      case measure => have := HK1.out; omega
      case rel => exact ⟨(wrap64 (x10_1 + 1)), (x312000_1), (x312001_1), (by first | rfl | (simp; done) | (simp [*]; done) | (simp; grind)), H', ⟨by have := HK1.out; omega⟩, ⟨blf_⟩, ⟨blf_⟩, ⟨blf_⟩, ⟨bel_⟩⟩
    subst c23
    have H1 : (ropewayref16_Least.l0 k1 l0_0 (l0_0.length : Int) (wrap64 (x10_1 + 1)) ((rd_T24 l0_0 x10_1).f0) ((rd_T24 l0_0 x10_1).f1)) = some (r1, r2) := by rw [if_pos rfl] at H; exact H
    clear H
    have H := H1
    clear H1
    have H' := zM H
    clear H
    have p312 : 0 ≤ (x10_1 : Int) := of_decide_eq_true (by first | (with_reducible assumption) | assumption)
    have q312 : x10_1 < (l0_0.length : Int) := of_decide_eq_true (by first | (with_reducible assumption) | assumption)
    obtain ⟨ad312, e312, hx312_0, hx312_1⟩ := at_T24 HR0_0.out x10_1 p312 q312
    cases e312
    replace hx312_0 := (HB.out.cell (World.block_lt_of_cell? w _ hx312_0)).trans hx312_0
    replace hx312_1 := (HB.out.cell (World.block_lt_of_cell? w _ hx312_1)).trans hx312_1
    replace p312 := eq_true p312
    replace q312 := eq_true q312
    go_wp2_with (first | ((with_reducible refine gate_dst (N := 5) rfl ?_); refine box_event ?hg (N := 5) ?hd (cs := #[.int .i64 0, .int .i64 0]) (t := 24) ?hr ?_; (case hd => rfl); (case hg => rfl); (case hr => first | (go_simp; done) | (go_simp; rfl)); intro gb313 hg w24 hbox hb; have BK313 := zM (hbox); have GW313 := zM (bs_ hg); have GE313 := zM (bs_ hg); replace HB := zM (zB bel_ hb); have NB309_313 := zM (nl_ BK309 hg); have NB313_309 := zM (ng_ BK309 hg); replace BK309 := zM (bb_ BK309 hb); have NB310_313 := zM (nl_ BK310 hg); have NB313_310 := zM (ng_ BK310 hg); replace BK310 := zM (bb_ BK310 hb); have NB311_313 := zM (nl_ BK311 hg); have NB313_311 := zM (ng_ BK311 hg); replace BK311 := zM (bb_ BK311 hb); clear hb hbox hg; have hnb25 := NB313_309.out; have hnc25 := NB309_313.out; have hnb26 := NB313_310.out; have hnc26 := NB310_313.out; have hnb27 := NB313_311.out; have hnc27 := NB311_313.out; have hcz28_0 : w24.cell? ⟨gb313, 0, none⟩ = some (.int .i64 0) := (zL BK313.out 0).trans rfl; have hcz28_1 : w24.cell? ⟨gb313, 1, none⟩ = some (.int .i64 0) := (zL BK313.out 1).trans rfl; have hfz28_0 := zF BK313.out 0; have hfz28_1 := zF BK313.out 1; have hnb29 := NB311_309.out; have hnc29 := NB309_311.out; have hnb30 := NB311_310.out; have hnc30 := NB310_311.out; have hcz31_0 : w24.cell? ⟨gb311, 0, none⟩ = some (.int .i64 x312000_1) := (zL BK311.out 0).trans rfl; have hcz31_1 : w24.cell? ⟨gb311, 1, none⟩ = some (.int .i64 x312001_1) := (zL BK311.out 1).trans rfl; have hfz31_0 := zF BK311.out 0; have hfz31_1 := zF BK311.out 1) | (go_at_call 29; (with_reducible refine (ropewayref05_Less.calls k1 ((rd_T24 l0_0 x10_1).f0) ((rd_T24 l0_0 x10_1).f1) x312000_1 x312001_1 true _ A22.out).mono ?_); rintro e w32 ⟨rfl, hb⟩; have n0_ := zM (blk_below (g := gb309) (o := .cells #[.slice (some ad312) l0_0.length c0_0, .int .i64 a0_1, .int .i64 a0_2] 34 (0, 0)) blf_ hb); have n1_ := zM (blk_below (g := gb310) (o := .cells #[.int .i64 0, .int .i64 0] 24 (0, 0)) blf_ hb); have n2_ := zM (blk_below (g := gb311) (o := .cells #[.int .i64 x312000_1, .int .i64 x312001_1] 24 (0, 0)) blf_ hb); have n3_ := zM (blk_below (g := gb313) (o := .cells #[.int .i64 ((rd_T24 l0_0 x10_1).f0), .int .i64 ((rd_T24 l0_0 x10_1).f1)] 24 (0, 0)) (by (with_reducible repeat (first | refine zN ?_ _ | refine zD ?_ | refine zA ?_ _)); refine blk_put (cs := #[.int .i64 ((rd_T24 l0_0 x10_1).f0), .int .i64 0]) ?_ 1 _ rfl; (with_reducible repeat (first | refine zN ?_ _ | refine zD ?_ | refine zA ?_ _)); refine blk_put (cs := #[.int .i64 0, .int .i64 0]) ?_ 0 _ rfl; (with_reducible repeat (first | refine zN ?_ _ | refine zD ?_ | refine zA ?_ _)); exact BK313.out) hb); have n4_ := zM (zB bel_ hb); clear BK309; clear BK310; clear BK311; clear BK313; clear HB; have BK309 := n0_; have BK310 := n1_; have BK311 := n2_; have BK313 := n3_; have HB := n4_; clear n0_ n1_ n2_ n3_ n4_; (try clear hb); (try clear hb2); (try clear hk); (try clear hi); have hcz33_0 : w32.cell? ⟨gb313, 0, none⟩ = some (.int .i64 ((rd_T24 l0_0 x10_1).f0)) := (zL BK313.out 0).trans rfl; have hcz33_1 : w32.cell? ⟨gb313, 1, none⟩ = some (.int .i64 ((rd_T24 l0_0 x10_1).f1)) := (zL BK313.out 1).trans rfl; have hfz33_0 := zF BK313.out 0; have hfz33_1 := zF BK313.out 1; have hcz34_0 : w32.cell? ⟨gb311, 0, none⟩ = some (.int .i64 x312000_1) := (zL BK311.out 0).trans rfl; have hcz34_1 : w32.cell? ⟨gb311, 1, none⟩ = some (.int .i64 x312001_1) := (zL BK311.out 1).trans rfl; have hfz34_0 := zF BK311.out 0; have hfz34_1 := zF BK311.out 1))
    go_roundg k1
    case measure => have := HK1.out; omega
    case rel => exact ⟨(wrap64 (x10_1 + 1)), ((rd_T24 l0_0 x10_1).f0), ((rd_T24 l0_0 x10_1).f1), (by first | rfl | (simp; done) | (simp [*]; done) | (simp; grind)), H', ⟨by have := HK1.out; omega⟩, ⟨blf_⟩, ⟨blf_⟩, ⟨by (with_reducible repeat (first | refine zN ?_ _ | refine zD ?_ | refine zA ?_ _)); refine blk_put (cs := #[.int .i64 ((rd_T24 l0_0 x10_1).f0), .int .i64 x312001_1]) ?_ 1 _ rfl; (with_reducible repeat (first | refine zN ?_ _ | refine zD ?_ | refine zA ?_ _)); refine blk_put (cs := #[.int .i64 x312000_1, .int .i64 x312001_1]) ?_ 0 _ rfl; (with_reducible repeat (first | refine zN ?_ _ | refine zD ?_ | refine zA ?_ _)); exact BK311.out⟩, ⟨bel_⟩⟩
end Go.Proofs.Ytjfmhahlmnnacaa.PFrontSteps
