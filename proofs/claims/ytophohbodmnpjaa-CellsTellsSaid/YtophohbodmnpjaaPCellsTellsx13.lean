/- Written by a program of this session (wip/tool/px.py) over the kit's print: what the code that the law CellsTells reaches computes, function by function, and the law's row. -/
import Derived.Test.YtophohbodmnpjaaPCellsTellsx0
import Derived.Test.YtophohbodmnpjaaPCellsTellsx1
import Derived.Test.YtophohbodmnpjaaPCellsTellsx3
import Derived.Test.YtophohbodmnpjaaPCellsTellsx6
import Derived.Test.YtophohbodmnpjaaPCellsTellsx7
import Derived.Test.YtophohbodmnpjaaPCellsTellsx9
import Derived.Test.YtophohbodmnpjaaPCellsTellsx10
import Derived.Test.YtophohbodmnpjaaPCellsTellsx11
import Derived.Test.YtophohbodmnpjaaPCellsTellsx12
namespace Go.Proofs.Ytophohbodmnpjaa.PCellsTells
open Go.RowKit Go.Proofs.YtophohbodmnpjaaX Go.Proofs.YtophohbodmnpjaaW.PrintWords Go.Proofs.YtophohbodmnpjaaW.PrintLast Go.Proofs.YtophohbodmnpjaaW.PrintMore
attribute [local go_sem] max2_int min2_int max_two min_two max_three min_three max_four min_four   -- for this text's walks alone
set_option linter.unusedVariables false
set_option linter.unusedSimpArgs false

attribute [local go_sem] px_nilq36
attribute [local go_sem high] eqA25
/-! ### ropewayref10_Clash: function 39 -/
def ropewayref10_Clash.l0 : Nat → List (S41) → List (S41) → Int → Option (Bool)
  | 0, _, _, _ => none
  | k + 1, x0, x1, x5 => if x5 < 6 then ((ropewayref10_Of.f k x0 x5).bind fun bt331 => ((ropewayref10_Of.f k x1 x5).bind fun bt335 => (if bt331.2.2 = true then (if bt335.2.2 = true then (if (!(bt331.1 == bt335.1) || (!(bt331.2.1 == bt335.2.1))) = true then (some true) else (ropewayref10_Clash.l0 k x0 x1 (wrap64 (x5 + 1)))) else (ropewayref10_Clash.l0 k x0 x1 (wrap64 (x5 + 1)))) else (ropewayref10_Clash.l0 k x0 x1 (wrap64 (x5 + 1)))))) else (some false)
def ropewayref10_Clash.f (k : Nat) (l0 : List (S41)) (l1 : List (S41)) : Option (Bool) := ropewayref10_Clash.l0 k l0 l1 0
theorem ropewayref10_Clash.mono_l : ∀ k, (∀ y0 y1 y2, LeO (ropewayref10_Clash.l0 k y0 y1 y2) (ropewayref10_Clash.l0 (k + 1) y0 y1 y2))
  | 0 => fun _ _ _ r h => by simp [ropewayref10_Clash.l0] at h
  | k + 1 => by
    have ih0 := ropewayref10_Clash.mono_l k
    · intro y0 y1 y2
      unfold ropewayref10_Clash.l0
      repeat' first
      | (with_reducible exact ih0 _ _ _)
      | (with_reducible exact ropewayref10_Of.mono _ _ _)
      | (with_reducible exact LeO.refl _)
      | (with_reducible exact LeO.none _)
      | (with_reducible refine LeO.ite ?_ ?_)
      | (with_reducible refine LeO.bind ?_ (fun _ => ?_))
      | exact ih0 _ _ _
      | exact ropewayref10_Of.mono _ _ _
      | exact LeO.none _
      | refine LeO.ite ?_ ?_
      | refine LeO.bind ?_ (fun _ => ?_)
theorem ropewayref10_Clash.mono : ∀ a0 a1 k, LeO (ropewayref10_Clash.f k a0 a1) (ropewayref10_Clash.f (k + 1) a0 a1) := by
  intro a0 a1 k
  have ih0 := ropewayref10_Clash.mono_l k
  unfold ropewayref10_Clash.f
  repeat' first
      | (with_reducible exact ih0 _ _ _)
      | (with_reducible exact ropewayref10_Of.mono _ _ _)
      | (with_reducible exact LeO.refl _)
      | (with_reducible exact LeO.none _)
      | (with_reducible refine LeO.ite ?_ ?_)
      | (with_reducible refine LeO.bind ?_ (fun _ => ?_))
      | exact ih0 _ _ _
      | exact ropewayref10_Of.mono _ _ _
      | exact LeO.none _
      | refine LeO.ite ?_ ?_
      | refine LeO.bind ?_ (fun _ => ?_)
set_option maxHeartbeats 8000000 in
set_option maxRecDepth 100000 in
theorem ropewayref10_Clash.calls (k : Nat) (A0 : Option Addr) (c0 : Nat) (l0 : List (S41)) (A1 : Option Addr) (c1 : Nat) (l1 : List (S41)) (r : Bool) (w : World) (hr0 : Kd.C k41 w A0 l0.length l0) (hc0 : l0.length ≤ c0) (hr1 : Kd.C k41 w A1 l1.length l1) (hc1 : l1.length ≤ c1) (h : ropewayref10_Clash.f k l0 l1 = some r) :
    Calls Try.prog 39 #[.slice A0 l0.length c0, .slice A1 l1.length c1] w fun e w' => e = .returned (.bool r) ∧ Below w.heap.size w w' := by
  have hu25 := Try.underlying25
  have HR0 := Aside0.mk hr0
  have HC0 := Aside0.mk hc0
  clear hr0 hc0
  have HR1 := Aside0.mk hr1
  have HC1 := Aside0.mk hc1
  clear hr1 hc1
  have HB := Aside0.mk (Below.refl w.heap.size w)
  have H : (ropewayref10_Clash.l0 k l0 l1 0) = some r := h
  clear h
  have H' := Aside0.mk H
  clear H
  go_enter Try.func39, Try.ntmps39
  go_wp2
  go_loopg [5] k (fun kq v5 w' => ∃ (x5_1 : Int), v5 = .int .i64 x5_1 ∧ Aside0 (ropewayref10_Clash.l0 kq l0 l1 x5_1 = some r) ∧ Aside0 (kq ≤ k) ∧ Aside0 (Below w.heap.size w w'))
  case atStart => exact ⟨(0), (by first | rfl | (simp; done) | (simp [*]; done) | (simp; grind)), H', ⟨Nat.le_refl _⟩, ⟨bel_⟩⟩
  case round =>
   clear H'
   try clear c1
   try clear p2
   obtain ⟨x5_1, rfl, HA, HK1, HB⟩ := hrel
   cases gk with
   | zero => exact absurd HA.out (by simp [ropewayref10_Clash.l0])
   | succ k1 =>
    have H := HA.out
    clear HA
    simp only [ropewayref10_Clash.l0] at H
    by_cases c3 : x5_1 < 6
    rotate_left
    · rw [if_neg c3] at H
      have c3b0 : decide (x5_1 < 6) = false := decide_eq_false c3
      clear c3
      obtain rfl := Option.some.inj H
      go_wp2
      go_ret
      exact ⟨by first | rfl | (simp [errW_none, errW_some] <;> rfl) | (simp [*, errW_none, errW_some] <;> rfl), bel_⟩
    rw [if_pos c3] at H
    have c3b0 : decide (x5_1 < 6) = true := decide_eq_true c3
    clear c3
    replace H := Option.bind_eq_some_iff.mp H
    obtain ⟨⟨t331, t332, t333⟩, A40, H⟩ := H
    replace H : ((ropewayref10_Of.f k1 l1 x5_1).bind fun bt335 => (if t333 = true then (if bt335.2.2 = true then (if (!(t331 == bt335.1) || (!(t332 == bt335.2.1))) = true then (some true) else (ropewayref10_Clash.l0 k1 l0 l1 (wrap64 (x5_1 + 1)))) else (ropewayref10_Clash.l0 k1 l0 l1 (wrap64 (x5_1 + 1)))) else (ropewayref10_Clash.l0 k1 l0 l1 (wrap64 (x5_1 + 1))))) = some r := H
    have A4 := Aside0.mk A40
    clear A40
    replace H := Option.bind_eq_some_iff.mp H
    obtain ⟨⟨t335, t336, t337⟩, A50, H⟩ := H
    replace H : (if t333 = true then (if t337 = true then (if (!(t331 == t335) || (!(t332 == t336))) = true then (some true) else (ropewayref10_Clash.l0 k1 l0 l1 (wrap64 (x5_1 + 1)))) else (ropewayref10_Clash.l0 k1 l0 l1 (wrap64 (x5_1 + 1)))) else (ropewayref10_Clash.l0 k1 l0 l1 (wrap64 (x5_1 + 1)))) = some r := H
    have A5 := Aside0.mk A50
    clear A50
    by_cases c6 : t333 = true
    rotate_left
    · replace c6 := Bool.eq_false_iff.mpr c6
      subst c6
      have H1 : (ropewayref10_Clash.l0 k1 l0 l1 (wrap64 (x5_1 + 1))) = some r := by rw [if_neg (show ¬ (false = true) by decide)] at H; exact H
      clear H
      have H := H1
      clear H1
      have H' := Aside0.mk H
      clear H
      go_wp2_with (first | ((with_reducible refine gate_callee (f := 35) rfl ?_); refine goL_ (some 17) Try.func35 #[.slice A0 l0.length c0, .int .i64 x5_1] ?_; (with_reducible refine (ropewayref10_Of.calls k1 _ _ l0 x5_1 t331 t332 false _ ?side1 ?side2 A4.out).mono ?_); (case side1 => repeat (first | exact (Kd.C_below HR0.out HB.out) | (with_reducible refine Kd.C_alloc ?_ _) | (with_reducible refine Kd.C_drewN ?_ _) | (with_reducible refine Kd.C_drew ?_))); (case side2 => exact HC0.out); rintro e w32 ⟨rfl, hb⟩; refine ⟨_, rfl, ?_⟩; have n0_ := Aside0.mk (below_step bel_ hb); clear HB; have HB := n0_; clear n0_; (try clear hb); (try clear hb2); (try clear hk); (try clear hi)) | ((with_reducible refine gate_dst (N := 6) rfl ?_); refine box_event ?hg (N := 6) ?hd (cs := #[.int .i64 0, .int .i64 0]) (t := 25) ?hr ?_; (case hd => rfl); (case hg => rfl); (case hr => first | (go_simp; done) | (go_simp; rfl)); intro gb334 hg w33 hbox hb; have n0_ := Aside0.mk (below_step bel_ hb); have n1_ := Aside0.mk (hbox); have n2_ := Aside0.mk (bs_ hg); have n3_ := Aside0.mk (bs_ hg); clear HB; have HB := n0_; have BK334 := n1_; have GW334 := n2_; have GE334 := n3_; clear n0_ n1_ n2_ n3_; clear hb hbox hg; have hcz34_0 : w33.cell? ⟨gb334, 0, none⟩ = some (.int .i64 0) := (blk_cell BK334.out 0).trans rfl; have hcz34_1 : w33.cell? ⟨gb334, 1, none⟩ = some (.int .i64 0) := (blk_cell BK334.out 1).trans rfl; have hfz34_0 := blk_frozen BK334.out 0; have hfz34_1 := blk_frozen BK334.out 1) | ((with_reducible refine gate_callee (f := 35) rfl ?_); refine goL_ (some 23) Try.func35 #[.slice A1 l1.length c1, .int .i64 x5_1] ?_; (with_reducible refine (ropewayref10_Of.calls k1 _ _ l1 x5_1 t335 t336 t337 _ ?side1 ?side2 A5.out).mono ?_); (case side1 => exact Kd.C_below HR1.out bel_); (case side2 => exact HC1.out); rintro e w35 ⟨rfl, hb⟩; refine ⟨_, rfl, ?_⟩; have n0_ := Aside0.mk (blk_below (g := gb334) (o := .cells #[.int .i64 t331, .int .i64 t332] 25 (0, 0)) (by (with_reducible repeat (first | refine blk_drewN ?_ _ | refine blk_drew ?_ | refine blk_alloc ?_ _)); refine blk_put (cs := #[.int .i64 t331, .int .i64 0]) ?_ 1 _ rfl; (with_reducible repeat (first | refine blk_drewN ?_ _ | refine blk_drew ?_ | refine blk_alloc ?_ _)); refine blk_put (cs := #[.int .i64 0, .int .i64 0]) ?_ 0 _ rfl; (with_reducible repeat (first | refine blk_drewN ?_ _ | refine blk_drew ?_ | refine blk_alloc ?_ _)); exact BK334.out) hb); have n1_ := Aside0.mk (below_step bel_ hb); clear BK334; clear HB; have BK334 := n0_; have HB := n1_; clear n0_ n1_; (try clear hb); (try clear hb2); (try clear hk); (try clear hi)) | ((with_reducible refine gate_dst (N := 8) rfl ?_); refine box_event ?hg (N := 8) ?hd (cs := #[.int .i64 0, .int .i64 0]) (t := 25) ?hr ?_; (case hd => rfl); (case hg => rfl); (case hr => first | (go_simp; done) | (go_simp; rfl)); intro gb338 hg w36 hbox hb; have n0_ := Aside0.mk (bb_ BK334 hb); have n1_ := Aside0.mk (below_step bel_ hb); have n2_ := Aside0.mk (hbox); have n3_ := Aside0.mk (bs_ hg); have n4_ := Aside0.mk (bs_ hg); have n5_ := Aside0.mk (nl_ BK334 hg); have n6_ := Aside0.mk (ng_ BK334 hg); clear BK334; clear HB; have BK334 := n0_; have HB := n1_; have BK338 := n2_; have GW338 := n3_; have GE338 := n4_; have NB334_338 := n5_; have NB338_334 := n6_; clear n0_ n1_ n2_ n3_ n4_ n5_ n6_; clear hb hbox hg; have hnb37 := NB338_334.out; have hnc37 := NB334_338.out; have hcz38_0 : w36.cell? ⟨gb338, 0, none⟩ = some (.int .i64 0) := (blk_cell BK338.out 0).trans rfl; have hcz38_1 : w36.cell? ⟨gb338, 1, none⟩ = some (.int .i64 0) := (blk_cell BK338.out 1).trans rfl; have hfz38_0 := blk_frozen BK338.out 0; have hfz38_1 := blk_frozen BK338.out 1))
      go_roundg k1
      case measure => have := HK1.out; omega
      case rel => exact ⟨(wrap64 (x5_1 + 1)), (by first | rfl | (simp; done) | (simp [*]; done) | (simp; grind)), H', ⟨by have := HK1.out; omega⟩, ⟨bel_⟩⟩
    subst c6
    have H1 : (if t337 = true then (if (!(t331 == t335) || (!(t332 == t336))) = true then (some true) else (ropewayref10_Clash.l0 k1 l0 l1 (wrap64 (x5_1 + 1)))) else (ropewayref10_Clash.l0 k1 l0 l1 (wrap64 (x5_1 + 1)))) = some r := by rw [if_pos rfl] at H; exact H
    clear H
    have H := H1
    clear H1
    by_cases c7 : t337 = true
    rotate_left
    · replace c7 := Bool.eq_false_iff.mpr c7
      subst c7
      have H1 : (ropewayref10_Clash.l0 k1 l0 l1 (wrap64 (x5_1 + 1))) = some r := by rw [if_neg (show ¬ (false = true) by decide)] at H; exact H
      clear H
      have H := H1
      clear H1
      have H' := Aside0.mk H
      clear H
      go_wp2_with (first | ((with_reducible refine gate_callee (f := 35) rfl ?_); refine goL_ (some 17) Try.func35 #[.slice A0 l0.length c0, .int .i64 x5_1] ?_; (with_reducible refine (ropewayref10_Of.calls k1 _ _ l0 x5_1 t331 t332 true _ ?side1 ?side2 A4.out).mono ?_); (case side1 => repeat (first | exact (Kd.C_below HR0.out HB.out) | (with_reducible refine Kd.C_alloc ?_ _) | (with_reducible refine Kd.C_drewN ?_ _) | (with_reducible refine Kd.C_drew ?_))); (case side2 => exact HC0.out); rintro e w25 ⟨rfl, hb⟩; refine ⟨_, rfl, ?_⟩; have n0_ := Aside0.mk (below_step bel_ hb); clear HB; have HB := n0_; clear n0_; (try clear hb); (try clear hb2); (try clear hk); (try clear hi)) | ((with_reducible refine gate_dst (N := 6) rfl ?_); refine box_event ?hg (N := 6) ?hd (cs := #[.int .i64 0, .int .i64 0]) (t := 25) ?hr ?_; (case hd => rfl); (case hg => rfl); (case hr => first | (go_simp; done) | (go_simp; rfl)); intro gb334 hg w26 hbox hb; have n0_ := Aside0.mk (below_step bel_ hb); have n1_ := Aside0.mk (hbox); have n2_ := Aside0.mk (bs_ hg); have n3_ := Aside0.mk (bs_ hg); clear HB; have HB := n0_; have BK334 := n1_; have GW334 := n2_; have GE334 := n3_; clear n0_ n1_ n2_ n3_; clear hb hbox hg; have hcz27_0 : w26.cell? ⟨gb334, 0, none⟩ = some (.int .i64 0) := (blk_cell BK334.out 0).trans rfl; have hcz27_1 : w26.cell? ⟨gb334, 1, none⟩ = some (.int .i64 0) := (blk_cell BK334.out 1).trans rfl; have hfz27_0 := blk_frozen BK334.out 0; have hfz27_1 := blk_frozen BK334.out 1) | ((with_reducible refine gate_callee (f := 35) rfl ?_); refine goL_ (some 23) Try.func35 #[.slice A1 l1.length c1, .int .i64 x5_1] ?_; (with_reducible refine (ropewayref10_Of.calls k1 _ _ l1 x5_1 t335 t336 false _ ?side1 ?side2 A5.out).mono ?_); (case side1 => exact Kd.C_below HR1.out bel_); (case side2 => exact HC1.out); rintro e w28 ⟨rfl, hb⟩; refine ⟨_, rfl, ?_⟩; have n0_ := Aside0.mk (blk_below (g := gb334) (o := .cells #[.int .i64 t331, .int .i64 t332] 25 (0, 0)) (by (with_reducible repeat (first | refine blk_drewN ?_ _ | refine blk_drew ?_ | refine blk_alloc ?_ _)); refine blk_put (cs := #[.int .i64 t331, .int .i64 0]) ?_ 1 _ rfl; (with_reducible repeat (first | refine blk_drewN ?_ _ | refine blk_drew ?_ | refine blk_alloc ?_ _)); refine blk_put (cs := #[.int .i64 0, .int .i64 0]) ?_ 0 _ rfl; (with_reducible repeat (first | refine blk_drewN ?_ _ | refine blk_drew ?_ | refine blk_alloc ?_ _)); exact BK334.out) hb); have n1_ := Aside0.mk (below_step bel_ hb); clear BK334; clear HB; have BK334 := n0_; have HB := n1_; clear n0_ n1_; (try clear hb); (try clear hb2); (try clear hk); (try clear hi)) | ((with_reducible refine gate_dst (N := 8) rfl ?_); refine box_event ?hg (N := 8) ?hd (cs := #[.int .i64 0, .int .i64 0]) (t := 25) ?hr ?_; (case hd => rfl); (case hg => rfl); (case hr => first | (go_simp; done) | (go_simp; rfl)); intro gb338 hg w29 hbox hb; have n0_ := Aside0.mk (bb_ BK334 hb); have n1_ := Aside0.mk (below_step bel_ hb); have n2_ := Aside0.mk (hbox); have n3_ := Aside0.mk (bs_ hg); have n4_ := Aside0.mk (bs_ hg); have n5_ := Aside0.mk (nl_ BK334 hg); have n6_ := Aside0.mk (ng_ BK334 hg); clear BK334; clear HB; have BK334 := n0_; have HB := n1_; have BK338 := n2_; have GW338 := n3_; have GE338 := n4_; have NB334_338 := n5_; have NB338_334 := n6_; clear n0_ n1_ n2_ n3_ n4_ n5_ n6_; clear hb hbox hg; have hnb30 := NB338_334.out; have hnc30 := NB334_338.out; have hcz31_0 : w29.cell? ⟨gb338, 0, none⟩ = some (.int .i64 0) := (blk_cell BK338.out 0).trans rfl; have hcz31_1 : w29.cell? ⟨gb338, 1, none⟩ = some (.int .i64 0) := (blk_cell BK338.out 1).trans rfl; have hfz31_0 := blk_frozen BK338.out 0; have hfz31_1 := blk_frozen BK338.out 1))
      go_roundg k1
      case measure => have := HK1.out; omega
      case rel => exact ⟨(wrap64 (x5_1 + 1)), (by first | rfl | (simp; done) | (simp [*]; done) | (simp; grind)), H', ⟨by have := HK1.out; omega⟩, ⟨bel_⟩⟩
    subst c7
    have H1 : (if (!(t331 == t335) || (!(t332 == t336))) = true then (some true) else (ropewayref10_Clash.l0 k1 l0 l1 (wrap64 (x5_1 + 1)))) = some r := by rw [if_pos rfl] at H; exact H
    clear H
    have H := H1
    clear H1
    by_cases c8 : (!(t331 == t335) || (!(t332 == t336))) = true
    · rw [if_pos c8] at H
      have c8b0 : (!(t331 == t335) || (!(t332 == t336))) = true := c8
      clear c8
      obtain rfl := Option.some.inj H
      go_wp2_with (first | ((with_reducible refine gate_callee (f := 35) rfl ?_); refine goL_ (some 17) Try.func35 #[.slice A0 l0.length c0, .int .i64 x5_1] ?_; (with_reducible refine (ropewayref10_Of.calls k1 _ _ l0 x5_1 t331 t332 true _ ?side1 ?side2 A4.out).mono ?_); (case side1 => repeat (first | exact (Kd.C_below HR0.out HB.out) | (with_reducible refine Kd.C_alloc ?_ _) | (with_reducible refine Kd.C_drewN ?_ _) | (with_reducible refine Kd.C_drew ?_))); (case side2 => exact HC0.out); rintro e w9 ⟨rfl, hb⟩; refine ⟨_, rfl, ?_⟩; have n0_ := Aside0.mk (below_step bel_ hb); clear HB; have HB := n0_; clear n0_; (try clear hb); (try clear hb2); (try clear hk); (try clear hi)) | ((with_reducible refine gate_dst (N := 6) rfl ?_); refine box_event ?hg (N := 6) ?hd (cs := #[.int .i64 0, .int .i64 0]) (t := 25) ?hr ?_; (case hd => rfl); (case hg => rfl); (case hr => first | (go_simp; done) | (go_simp; rfl)); intro gb334 hg w10 hbox hb; have n0_ := Aside0.mk (below_step bel_ hb); have n1_ := Aside0.mk (hbox); have n2_ := Aside0.mk (bs_ hg); have n3_ := Aside0.mk (bs_ hg); clear HB; have HB := n0_; have BK334 := n1_; have GW334 := n2_; have GE334 := n3_; clear n0_ n1_ n2_ n3_; clear hb hbox hg; have hcz11_0 : w10.cell? ⟨gb334, 0, none⟩ = some (.int .i64 0) := (blk_cell BK334.out 0).trans rfl; have hcz11_1 : w10.cell? ⟨gb334, 1, none⟩ = some (.int .i64 0) := (blk_cell BK334.out 1).trans rfl; have hfz11_0 := blk_frozen BK334.out 0; have hfz11_1 := blk_frozen BK334.out 1) | ((with_reducible refine gate_callee (f := 35) rfl ?_); refine goL_ (some 23) Try.func35 #[.slice A1 l1.length c1, .int .i64 x5_1] ?_; (with_reducible refine (ropewayref10_Of.calls k1 _ _ l1 x5_1 t335 t336 true _ ?side1 ?side2 A5.out).mono ?_); (case side1 => exact Kd.C_below HR1.out bel_); (case side2 => exact HC1.out); rintro e w12 ⟨rfl, hb⟩; refine ⟨_, rfl, ?_⟩; have n0_ := Aside0.mk (blk_below (g := gb334) (o := .cells #[.int .i64 t331, .int .i64 t332] 25 (0, 0)) (by (with_reducible repeat (first | refine blk_drewN ?_ _ | refine blk_drew ?_ | refine blk_alloc ?_ _)); refine blk_put (cs := #[.int .i64 t331, .int .i64 0]) ?_ 1 _ rfl; (with_reducible repeat (first | refine blk_drewN ?_ _ | refine blk_drew ?_ | refine blk_alloc ?_ _)); refine blk_put (cs := #[.int .i64 0, .int .i64 0]) ?_ 0 _ rfl; (with_reducible repeat (first | refine blk_drewN ?_ _ | refine blk_drew ?_ | refine blk_alloc ?_ _)); exact BK334.out) hb); have n1_ := Aside0.mk (below_step bel_ hb); clear BK334; clear HB; have BK334 := n0_; have HB := n1_; clear n0_ n1_; (try clear hb); (try clear hb2); (try clear hk); (try clear hi)) | ((with_reducible refine gate_dst (N := 8) rfl ?_); refine box_event ?hg (N := 8) ?hd (cs := #[.int .i64 0, .int .i64 0]) (t := 25) ?hr ?_; (case hd => rfl); (case hg => rfl); (case hr => first | (go_simp; done) | (go_simp; rfl)); intro gb338 hg w13 hbox hb; have n0_ := Aside0.mk (bb_ BK334 hb); have n1_ := Aside0.mk (below_step bel_ hb); have n2_ := Aside0.mk (hbox); have n3_ := Aside0.mk (bs_ hg); have n4_ := Aside0.mk (bs_ hg); have n5_ := Aside0.mk (nl_ BK334 hg); have n6_ := Aside0.mk (ng_ BK334 hg); clear BK334; clear HB; have BK334 := n0_; have HB := n1_; have BK338 := n2_; have GW338 := n3_; have GE338 := n4_; have NB334_338 := n5_; have NB338_334 := n6_; clear n0_ n1_ n2_ n3_ n4_ n5_ n6_; clear hb hbox hg; have hnb14 := NB338_334.out; have hnc14 := NB334_338.out; have hcz15_0 : w13.cell? ⟨gb338, 0, none⟩ = some (.int .i64 0) := (blk_cell BK338.out 0).trans rfl; have hcz15_1 : w13.cell? ⟨gb338, 1, none⟩ = some (.int .i64 0) := (blk_cell BK338.out 1).trans rfl; have hfz15_0 := blk_frozen BK338.out 0; have hfz15_1 := blk_frozen BK338.out 1; have hcz16_0 : w13.cell? ⟨gb334, 0, none⟩ = some (.int .i64 t331) := (blk_cell BK334.out 0).trans rfl; have hcz16_1 : w13.cell? ⟨gb334, 1, none⟩ = some (.int .i64 t332) := (blk_cell BK334.out 1).trans rfl; have hfz16_0 := blk_frozen BK334.out 0; have hfz16_1 := blk_frozen BK334.out 1))
      go_ret
      exact ⟨by first | rfl | (simp [errW_none, errW_some] <;> rfl) | (simp [*, errW_none, errW_some] <;> rfl), bel_⟩
    rw [if_neg c8] at H
    have c8b0 : (!(t331 == t335) || (!(t332 == t336))) = false := by simpa using c8
    clear c8
    have H' := Aside0.mk H
    clear H
    go_wp2_with (first | ((with_reducible refine gate_callee (f := 35) rfl ?_); refine goL_ (some 17) Try.func35 #[.slice A0 l0.length c0, .int .i64 x5_1] ?_; (with_reducible refine (ropewayref10_Of.calls k1 _ _ l0 x5_1 t331 t332 true _ ?side1 ?side2 A4.out).mono ?_); (case side1 => repeat (first | exact (Kd.C_below HR0.out HB.out) | (with_reducible refine Kd.C_alloc ?_ _) | (with_reducible refine Kd.C_drewN ?_ _) | (with_reducible refine Kd.C_drew ?_))); (case side2 => exact HC0.out); rintro e w17 ⟨rfl, hb⟩; refine ⟨_, rfl, ?_⟩; have n0_ := Aside0.mk (below_step bel_ hb); clear HB; have HB := n0_; clear n0_; (try clear hb); (try clear hb2); (try clear hk); (try clear hi)) | ((with_reducible refine gate_dst (N := 6) rfl ?_); refine box_event ?hg (N := 6) ?hd (cs := #[.int .i64 0, .int .i64 0]) (t := 25) ?hr ?_; (case hd => rfl); (case hg => rfl); (case hr => first | (go_simp; done) | (go_simp; rfl)); intro gb334 hg w18 hbox hb; have n0_ := Aside0.mk (below_step bel_ hb); have n1_ := Aside0.mk (hbox); have n2_ := Aside0.mk (bs_ hg); have n3_ := Aside0.mk (bs_ hg); clear HB; have HB := n0_; have BK334 := n1_; have GW334 := n2_; have GE334 := n3_; clear n0_ n1_ n2_ n3_; clear hb hbox hg; have hcz19_0 : w18.cell? ⟨gb334, 0, none⟩ = some (.int .i64 0) := (blk_cell BK334.out 0).trans rfl; have hcz19_1 : w18.cell? ⟨gb334, 1, none⟩ = some (.int .i64 0) := (blk_cell BK334.out 1).trans rfl; have hfz19_0 := blk_frozen BK334.out 0; have hfz19_1 := blk_frozen BK334.out 1) | ((with_reducible refine gate_callee (f := 35) rfl ?_); refine goL_ (some 23) Try.func35 #[.slice A1 l1.length c1, .int .i64 x5_1] ?_; (with_reducible refine (ropewayref10_Of.calls k1 _ _ l1 x5_1 t335 t336 true _ ?side1 ?side2 A5.out).mono ?_); (case side1 => exact Kd.C_below HR1.out bel_); (case side2 => exact HC1.out); rintro e w20 ⟨rfl, hb⟩; refine ⟨_, rfl, ?_⟩; have n0_ := Aside0.mk (blk_below (g := gb334) (o := .cells #[.int .i64 t331, .int .i64 t332] 25 (0, 0)) (by (with_reducible repeat (first | refine blk_drewN ?_ _ | refine blk_drew ?_ | refine blk_alloc ?_ _)); refine blk_put (cs := #[.int .i64 t331, .int .i64 0]) ?_ 1 _ rfl; (with_reducible repeat (first | refine blk_drewN ?_ _ | refine blk_drew ?_ | refine blk_alloc ?_ _)); refine blk_put (cs := #[.int .i64 0, .int .i64 0]) ?_ 0 _ rfl; (with_reducible repeat (first | refine blk_drewN ?_ _ | refine blk_drew ?_ | refine blk_alloc ?_ _)); exact BK334.out) hb); have n1_ := Aside0.mk (below_step bel_ hb); clear BK334; clear HB; have BK334 := n0_; have HB := n1_; clear n0_ n1_; (try clear hb); (try clear hb2); (try clear hk); (try clear hi)) | ((with_reducible refine gate_dst (N := 8) rfl ?_); refine box_event ?hg (N := 8) ?hd (cs := #[.int .i64 0, .int .i64 0]) (t := 25) ?hr ?_; (case hd => rfl); (case hg => rfl); (case hr => first | (go_simp; done) | (go_simp; rfl)); intro gb338 hg w21 hbox hb; have n0_ := Aside0.mk (bb_ BK334 hb); have n1_ := Aside0.mk (below_step bel_ hb); have n2_ := Aside0.mk (hbox); have n3_ := Aside0.mk (bs_ hg); have n4_ := Aside0.mk (bs_ hg); have n5_ := Aside0.mk (nl_ BK334 hg); have n6_ := Aside0.mk (ng_ BK334 hg); clear BK334; clear HB; have BK334 := n0_; have HB := n1_; have BK338 := n2_; have GW338 := n3_; have GE338 := n4_; have NB334_338 := n5_; have NB338_334 := n6_; clear n0_ n1_ n2_ n3_ n4_ n5_ n6_; clear hb hbox hg; have hnb22 := NB338_334.out; have hnc22 := NB334_338.out; have hcz23_0 : w21.cell? ⟨gb338, 0, none⟩ = some (.int .i64 0) := (blk_cell BK338.out 0).trans rfl; have hcz23_1 : w21.cell? ⟨gb338, 1, none⟩ = some (.int .i64 0) := (blk_cell BK338.out 1).trans rfl; have hfz23_0 := blk_frozen BK338.out 0; have hfz23_1 := blk_frozen BK338.out 1; have hcz24_0 : w21.cell? ⟨gb334, 0, none⟩ = some (.int .i64 t331) := (blk_cell BK334.out 0).trans rfl; have hcz24_1 : w21.cell? ⟨gb334, 1, none⟩ = some (.int .i64 t332) := (blk_cell BK334.out 1).trans rfl; have hfz24_0 := blk_frozen BK334.out 0; have hfz24_1 := blk_frozen BK334.out 1))
    go_roundg k1
    case measure => have := HK1.out; omega
    case rel => exact ⟨(wrap64 (x5_1 + 1)), (by first | rfl | (simp; done) | (simp [*]; done) | (simp; grind)), H', ⟨by have := HK1.out; omega⟩, ⟨bel_⟩⟩
/-! ### ropewaylaw10_CellsTells: function 9 -/
mutual
def ropewaylaw10_CellsTells.j0 : Nat → List (S41) → List (S41) → Int → Bool → Option (Bool)
  | 0, _, _, _, _ => none
  | k + 1, x0, x1, x2, x21 => if x21 = true then (some false) else ((ropewayref10_Check.f k x0).bind fun t342 => (if t342 = 0 then ((ropewayref10_Check.f k x1).bind fun t343 => (ropewaylaw10_CellsTells.j1 k x0 x1 x2 (t343 != 0))) else (ropewaylaw10_CellsTells.j1 k x0 x1 x2 true)))
def ropewaylaw10_CellsTells.j1 : Nat → List (S41) → List (S41) → Int → Bool → Option (Bool)
  | 0, _, _, _, _ => none
  | k + 1, x0, x1, x2, x29 => if x29 = true then (some true) else ((some (([] : List (S41)) : List (S41))).bind fun y344 => (if y344.length + x0.length < 5864062014805 then ((some (y344 ++ x0 : List (S41))).bind fun y347 => ((some (([] : List (S41)) : List (S41))).bind fun y350 => (if y350.length + x1.length < 5864062014805 then ((some (y350 ++ x1 : List (S41))).bind fun y353 => ((cells_Of.f k y347 x2).bind fun bt356 => ((ropewayref10_Of.f k x0 x2).bind fun bt360 => (if (!(bt356.1 == bt360.1) || (!(bt356.2.1 == bt360.2.1))) = true then (ropewaylaw10_CellsTells.j2 k x0 x1 y347 y353 true) else (if (bt356.2.2 != bt360.2.2) = true then (ropewaylaw10_CellsTells.j2 k x0 x1 y347 y353 true) else ((cells_Merge.f k y347 y353).bind fun t364 => ((ropewayref10_Merge.f k x0 x1).bind fun t367 => ((ropewayref10_Same.f k t364 t367).bind fun t370 => (if t370 = true then ((cells_News.f k y347 y353).bind fun t371 => ((ropewayref10_News.f k x0 x1).bind fun t374 => ((ropewayref10_Same.f k t371 t374).bind fun t377 => (ropewaylaw10_CellsTells.j2 k x0 x1 y347 y353 (!t377))))) else (ropewaylaw10_CellsTells.j2 k x0 x1 y347 y353 true)))))))))) else (none)))) else (none)))
def ropewaylaw10_CellsTells.j2 : Nat → List (S41) → List (S41) → List (S41) → List (S41) → Bool → Option (Bool)
  | 0, _, _, _, _, _ => none
  | k + 1, x0, x1, x7, x8, x75 => if x75 = true then (some false) else ((cells_Changes.f k x7).bind fun t378 => ((ropewayref10_Changes.f k x0).bind fun t381 => ((ropewayref05_Same.f k t378 t381).bind fun t384 => (if t384 = true then ((cells_Clash.f k x7 x8).bind fun t385 => ((ropewayref10_Clash.f k x0 x1).bind fun t386 => (if (t385 == t386) = true then ((ropewayref10_Same.f k x7 x0).bind fun t387 => (if t387 = true then ((ropewayref10_Same.f k x8 x1).bind fun t388 => (some t388)) else (some false))) else (some false)))) else (some false)))))
end
def ropewaylaw10_CellsTells.f (k : Nat) (l0 : List (S41)) (l1 : List (S41)) (a2 : Int) : Option (Bool) := (ropewaylaw10_cellsAlive.f k).bind fun t339 => (if t339 = true then ((cells_Check.f k l0).bind fun t340 => ((ropewayref10_Check.f k l0).bind fun t341 => (ropewaylaw10_CellsTells.j0 k l0 l1 a2 (t340 != t341)))) else (ropewaylaw10_CellsTells.j0 k l0 l1 a2 true))
theorem ropewaylaw10_CellsTells.mono_l : ∀ k, (∀ y0 y1 y2 y3, LeO (ropewaylaw10_CellsTells.j0 k y0 y1 y2 y3) (ropewaylaw10_CellsTells.j0 (k + 1) y0 y1 y2 y3)) ∧ (∀ y0 y1 y2 y3, LeO (ropewaylaw10_CellsTells.j1 k y0 y1 y2 y3) (ropewaylaw10_CellsTells.j1 (k + 1) y0 y1 y2 y3)) ∧ (∀ y0 y1 y2 y3 y4, LeO (ropewaylaw10_CellsTells.j2 k y0 y1 y2 y3 y4) (ropewaylaw10_CellsTells.j2 (k + 1) y0 y1 y2 y3 y4))
  | 0 => ⟨fun _ _ _ _ r h => by simp [ropewaylaw10_CellsTells.j0] at h, fun _ _ _ _ r h => by simp [ropewaylaw10_CellsTells.j1] at h, fun _ _ _ _ _ r h => by simp [ropewaylaw10_CellsTells.j2] at h⟩
  | k + 1 => by
    obtain ⟨ih0, ih1, ih2⟩ := ropewaylaw10_CellsTells.mono_l k
    refine ⟨?_, ?_, ?_⟩
    · intro y0 y1 y2 y3
      unfold ropewaylaw10_CellsTells.j0
      repeat' first
      | (with_reducible exact ih0 _ _ _ _)
      | (with_reducible exact ih1 _ _ _ _)
      | (with_reducible exact ih2 _ _ _ _ _)
      | (with_reducible exact cells_Changes.mono _ _)
      | (with_reducible exact cells_Check.mono _ _)
      | (with_reducible exact cells_Clash.mono _ _ _)
      | (with_reducible exact cells_Merge.mono _ _ _)
      | (with_reducible exact cells_News.mono _ _ _)
      | (with_reducible exact cells_Of.mono _ _ _)
      | (with_reducible exact ropewaylaw10_cellsAlive.mono _)
      | (with_reducible exact ropewayref05_Same.mono _ _ _)
      | (with_reducible exact ropewayref10_Changes.mono _ _)
      | (with_reducible exact ropewayref10_Check.mono _ _)
      | (with_reducible exact ropewayref10_Clash.mono _ _ _)
      | (with_reducible exact ropewayref10_Merge.mono _ _ _)
      | (with_reducible exact ropewayref10_News.mono _ _ _)
      | (with_reducible exact ropewayref10_Of.mono _ _ _)
      | (with_reducible exact ropewayref10_Same.mono _ _ _)
      | (with_reducible exact LeO.refl _)
      | (with_reducible exact LeO.none _)
      | (with_reducible refine LeO.ite ?_ ?_)
      | (with_reducible refine LeO.bind ?_ (fun _ => ?_))
      | exact ih0 _ _ _ _
      | exact ih1 _ _ _ _
      | exact ih2 _ _ _ _ _
      | exact cells_Changes.mono _ _
      | exact cells_Check.mono _ _
      | exact cells_Clash.mono _ _ _
      | exact cells_Merge.mono _ _ _
      | exact cells_News.mono _ _ _
      | exact cells_Of.mono _ _ _
      | exact ropewaylaw10_cellsAlive.mono _
      | exact ropewayref05_Same.mono _ _ _
      | exact ropewayref10_Changes.mono _ _
      | exact ropewayref10_Check.mono _ _
      | exact ropewayref10_Clash.mono _ _ _
      | exact ropewayref10_Merge.mono _ _ _
      | exact ropewayref10_News.mono _ _ _
      | exact ropewayref10_Of.mono _ _ _
      | exact ropewayref10_Same.mono _ _ _
      | exact LeO.none _
      | refine LeO.ite ?_ ?_
      | refine LeO.bind ?_ (fun _ => ?_)
    · intro y0 y1 y2 y3
      unfold ropewaylaw10_CellsTells.j1
      repeat' first
      | (with_reducible exact ih0 _ _ _ _)
      | (with_reducible exact ih1 _ _ _ _)
      | (with_reducible exact ih2 _ _ _ _ _)
      | (with_reducible exact cells_Changes.mono _ _)
      | (with_reducible exact cells_Check.mono _ _)
      | (with_reducible exact cells_Clash.mono _ _ _)
      | (with_reducible exact cells_Merge.mono _ _ _)
      | (with_reducible exact cells_News.mono _ _ _)
      | (with_reducible exact cells_Of.mono _ _ _)
      | (with_reducible exact ropewaylaw10_cellsAlive.mono _)
      | (with_reducible exact ropewayref05_Same.mono _ _ _)
      | (with_reducible exact ropewayref10_Changes.mono _ _)
      | (with_reducible exact ropewayref10_Check.mono _ _)
      | (with_reducible exact ropewayref10_Clash.mono _ _ _)
      | (with_reducible exact ropewayref10_Merge.mono _ _ _)
      | (with_reducible exact ropewayref10_News.mono _ _ _)
      | (with_reducible exact ropewayref10_Of.mono _ _ _)
      | (with_reducible exact ropewayref10_Same.mono _ _ _)
      | (with_reducible exact LeO.refl _)
      | (with_reducible exact LeO.none _)
      | (with_reducible refine LeO.ite ?_ ?_)
      | (with_reducible refine LeO.bind ?_ (fun _ => ?_))
      | exact ih0 _ _ _ _
      | exact ih1 _ _ _ _
      | exact ih2 _ _ _ _ _
      | exact cells_Changes.mono _ _
      | exact cells_Check.mono _ _
      | exact cells_Clash.mono _ _ _
      | exact cells_Merge.mono _ _ _
      | exact cells_News.mono _ _ _
      | exact cells_Of.mono _ _ _
      | exact ropewaylaw10_cellsAlive.mono _
      | exact ropewayref05_Same.mono _ _ _
      | exact ropewayref10_Changes.mono _ _
      | exact ropewayref10_Check.mono _ _
      | exact ropewayref10_Clash.mono _ _ _
      | exact ropewayref10_Merge.mono _ _ _
      | exact ropewayref10_News.mono _ _ _
      | exact ropewayref10_Of.mono _ _ _
      | exact ropewayref10_Same.mono _ _ _
      | exact LeO.none _
      | refine LeO.ite ?_ ?_
      | refine LeO.bind ?_ (fun _ => ?_)
    · intro y0 y1 y2 y3 y4
      unfold ropewaylaw10_CellsTells.j2
      repeat' first
      | (with_reducible exact ih0 _ _ _ _)
      | (with_reducible exact ih1 _ _ _ _)
      | (with_reducible exact ih2 _ _ _ _ _)
      | (with_reducible exact cells_Changes.mono _ _)
      | (with_reducible exact cells_Check.mono _ _)
      | (with_reducible exact cells_Clash.mono _ _ _)
      | (with_reducible exact cells_Merge.mono _ _ _)
      | (with_reducible exact cells_News.mono _ _ _)
      | (with_reducible exact cells_Of.mono _ _ _)
      | (with_reducible exact ropewaylaw10_cellsAlive.mono _)
      | (with_reducible exact ropewayref05_Same.mono _ _ _)
      | (with_reducible exact ropewayref10_Changes.mono _ _)
      | (with_reducible exact ropewayref10_Check.mono _ _)
      | (with_reducible exact ropewayref10_Clash.mono _ _ _)
      | (with_reducible exact ropewayref10_Merge.mono _ _ _)
      | (with_reducible exact ropewayref10_News.mono _ _ _)
      | (with_reducible exact ropewayref10_Of.mono _ _ _)
      | (with_reducible exact ropewayref10_Same.mono _ _ _)
      | (with_reducible exact LeO.refl _)
      | (with_reducible exact LeO.none _)
      | (with_reducible refine LeO.ite ?_ ?_)
      | (with_reducible refine LeO.bind ?_ (fun _ => ?_))
      | exact ih0 _ _ _ _
      | exact ih1 _ _ _ _
      | exact ih2 _ _ _ _ _
      | exact cells_Changes.mono _ _
      | exact cells_Check.mono _ _
      | exact cells_Clash.mono _ _ _
      | exact cells_Merge.mono _ _ _
      | exact cells_News.mono _ _ _
      | exact cells_Of.mono _ _ _
      | exact ropewaylaw10_cellsAlive.mono _
      | exact ropewayref05_Same.mono _ _ _
      | exact ropewayref10_Changes.mono _ _
      | exact ropewayref10_Check.mono _ _
      | exact ropewayref10_Clash.mono _ _ _
      | exact ropewayref10_Merge.mono _ _ _
      | exact ropewayref10_News.mono _ _ _
      | exact ropewayref10_Of.mono _ _ _
      | exact ropewayref10_Same.mono _ _ _
      | exact LeO.none _
      | refine LeO.ite ?_ ?_
      | refine LeO.bind ?_ (fun _ => ?_)
theorem ropewaylaw10_CellsTells.mono : ∀ a0 a1 a2 k, LeO (ropewaylaw10_CellsTells.f k a0 a1 a2) (ropewaylaw10_CellsTells.f (k + 1) a0 a1 a2) := by
  intro a0 a1 a2 k
  obtain ⟨ih0, ih1, ih2⟩ := ropewaylaw10_CellsTells.mono_l k
  unfold ropewaylaw10_CellsTells.f
  repeat' first
      | (with_reducible exact ih0 _ _ _ _)
      | (with_reducible exact ih1 _ _ _ _)
      | (with_reducible exact ih2 _ _ _ _ _)
      | (with_reducible exact cells_Changes.mono _ _)
      | (with_reducible exact cells_Check.mono _ _)
      | (with_reducible exact cells_Clash.mono _ _ _)
      | (with_reducible exact cells_Merge.mono _ _ _)
      | (with_reducible exact cells_News.mono _ _ _)
      | (with_reducible exact cells_Of.mono _ _ _)
      | (with_reducible exact ropewaylaw10_cellsAlive.mono _)
      | (with_reducible exact ropewayref05_Same.mono _ _ _)
      | (with_reducible exact ropewayref10_Changes.mono _ _)
      | (with_reducible exact ropewayref10_Check.mono _ _)
      | (with_reducible exact ropewayref10_Clash.mono _ _ _)
      | (with_reducible exact ropewayref10_Merge.mono _ _ _)
      | (with_reducible exact ropewayref10_News.mono _ _ _)
      | (with_reducible exact ropewayref10_Of.mono _ _ _)
      | (with_reducible exact ropewayref10_Same.mono _ _ _)
      | (with_reducible exact LeO.refl _)
      | (with_reducible exact LeO.none _)
      | (with_reducible refine LeO.ite ?_ ?_)
      | (with_reducible refine LeO.bind ?_ (fun _ => ?_))
      | exact ih0 _ _ _ _
      | exact ih1 _ _ _ _
      | exact ih2 _ _ _ _ _
      | exact cells_Changes.mono _ _
      | exact cells_Check.mono _ _
      | exact cells_Clash.mono _ _ _
      | exact cells_Merge.mono _ _ _
      | exact cells_News.mono _ _ _
      | exact cells_Of.mono _ _ _
      | exact ropewaylaw10_cellsAlive.mono _
      | exact ropewayref05_Same.mono _ _ _
      | exact ropewayref10_Changes.mono _ _
      | exact ropewayref10_Check.mono _ _
      | exact ropewayref10_Clash.mono _ _ _
      | exact ropewayref10_Merge.mono _ _ _
      | exact ropewayref10_News.mono _ _ _
      | exact ropewayref10_Of.mono _ _ _
      | exact ropewayref10_Same.mono _ _ _
      | exact LeO.none _
      | refine LeO.ite ?_ ?_
      | refine LeO.bind ?_ (fun _ => ?_)
set_option maxHeartbeats 8000000 in
set_option maxRecDepth 100000 in
theorem ropewaylaw10_CellsTells.calls (k : Nat) (A0 : Option Addr) (c0 : Nat) (l0 : List (S41)) (A1 : Option Addr) (c1 : Nat) (l1 : List (S41)) (a2 : Int) (r : Bool) (w : World) (hr0 : Kd.C k41 w A0 l0.length l0) (hc0 : l0.length ≤ c0) (hr1 : Kd.C k41 w A1 l1.length l1) (hc1 : l1.length ≤ c1) (hr1_ : Aside0 (r = true)) (h : ropewaylaw10_CellsTells.f k l0 l1 a2 = some r) :
    Calls Try.prog 9 #[.slice A0 l0.length c0, .slice A1 l1.length c1, .int .i64 a2] w fun e w' => e = .returned (.bool r) ∧ Below w.heap.size w w' := by
  have hu25 := Try.underlying25
  have HR0 := Aside0.mk hr0
  have HC0 := Aside0.mk hc0
  clear hr0 hc0
  have HR1 := Aside0.mk hr1
  have HC1 := Aside0.mk hc1
  clear hr1 hc1
  have HB := Aside0.mk (Below.refl w.heap.size w)
  have H : ((ropewaylaw10_cellsAlive.f k).bind fun t339 => (if t339 = true then ((cells_Check.f k l0).bind fun t340 => ((ropewayref10_Check.f k l0).bind fun t341 => (ropewaylaw10_CellsTells.j0 k l0 l1 a2 (t340 != t341)))) else (ropewaylaw10_CellsTells.j0 k l0 l1 a2 true))) = some r := h
  clear h
  have HC4 := Aside0.mk H
  clear H
  go_enter Try.func9, Try.ntmps9
  go_upto_region 1 with (fail)
  go_cut [21] (fun v21 wc => ∃ (kq : Nat) (x21_3 : Bool), v21 = .bool x21_3 ∧ Aside0 (ropewaylaw10_CellsTells.j0 kq l0 l1 a2 x21_3 = some r) ∧ Aside0 (kq ≤ k) ∧ Aside0 (Below w.heap.size w wc))
  case first =>
   have H := HC4.out
   clear HC4
   replace H := Option.bind_eq_some_iff.mp H
   obtain ⟨t339, A50, H⟩ := H
   replace H : (if t339 = true then ((cells_Check.f k l0).bind fun t340 => ((ropewayref10_Check.f k l0).bind fun t341 => (ropewaylaw10_CellsTells.j0 k l0 l1 a2 (t340 != t341)))) else (ropewaylaw10_CellsTells.j0 k l0 l1 a2 true)) = some r := H
   have A5 := Aside0.mk A50
   clear A50
   by_cases c6 : t339 = true
   rotate_left
   · replace c6 := Bool.eq_false_iff.mpr c6
     subst c6
     have H1 : (ropewaylaw10_CellsTells.j0 k l0 l1 a2 true) = some r := by rw [if_neg (show ¬ (false = true) by decide)] at H; exact H
     clear H
     have H := H1
     clear H1
     have hr1 := hr1_.out
     subst hr1
     (cases k) <;> simp [ropewaylaw10_CellsTells.j0] at H
   subst c6
   have H1 : ((cells_Check.f k l0).bind fun t340 => ((ropewayref10_Check.f k l0).bind fun t341 => (ropewaylaw10_CellsTells.j0 k l0 l1 a2 (t340 != t341)))) = some r := by rw [if_pos rfl] at H; exact H
   clear H
   have H := H1
   clear H1
   replace H := Option.bind_eq_some_iff.mp H
   obtain ⟨t340, A70, H⟩ := H
   replace H : ((ropewayref10_Check.f k l0).bind fun t341 => (ropewaylaw10_CellsTells.j0 k l0 l1 a2 (t340 != t341))) = some r := H
   have A7 := Aside0.mk A70
   clear A70
   replace H := Option.bind_eq_some_iff.mp H
   obtain ⟨t341, A80, H⟩ := H
   replace H : (ropewaylaw10_CellsTells.j0 k l0 l1 a2 (t340 != t341)) = some r := H
   have A8 := Aside0.mk A80
   clear A80
   have H' := Aside0.mk H
   clear H
   go_wp2_with (first | ((with_reducible refine gate_callee (f := 25) rfl ?_); refine goL_ (some 13) Try.func25 #[] ?_; (with_reducible refine (ropewaylaw10_cellsAlive.calls k  true _ A5.out).mono ?_); rintro e w9 ⟨rfl, hb⟩; refine ⟨_, rfl, ?_⟩; have n0_ := Aside0.mk (below_step bel_ hb); clear HB; have HB := n0_; clear n0_; (try clear hb); (try clear hb2); (try clear hk); (try clear hi)) | (go_at_call 26; (with_reducible refine (cells_Check.calls k _ _ l0 t340 _ ?side1 ?side2 A7.out).mono ?_); (case side1 => repeat (first | exact (Kd.C_below HR0.out HB.out) | (with_reducible refine Kd.C_alloc ?_ _) | (with_reducible refine Kd.C_drewN ?_ _) | (with_reducible refine Kd.C_drew ?_))); (case side2 => exact HC0.out); rintro e w10 ⟨rfl, hb⟩; have n0_ := Aside0.mk (below_step bel_ hb); clear HB; have HB := n0_; clear n0_; (try clear hb); (try clear hb2); (try clear hk); (try clear hi)) | (go_at_call 34; (with_reducible refine (ropewayref10_Check.calls k _ _ l0 t341 _ ?side1 ?side2 A8.out).mono ?_); (case side1 => repeat (first | exact (Kd.C_below HR0.out HB.out) | (with_reducible refine Kd.C_alloc ?_ _) | (with_reducible refine Kd.C_drewN ?_ _) | (with_reducible refine Kd.C_drew ?_))); (case side2 => exact HC0.out); rintro e w11 ⟨rfl, hb⟩; have n0_ := Aside0.mk (below_step bel_ hb); clear HB; have HB := n0_; clear n0_; (try clear hb); (try clear hb2); (try clear hk); (try clear hi)))
   go_meet
   case rel => exact ⟨_, ((t340 != t341)), (by first | rfl | (simp; done) | (simp [*]; done) | (simp; grind)), H', ⟨by first | omega | exact Nat.le_refl _⟩, ⟨bel_⟩⟩
  case rest =>
   clear HC4
   try clear c1
   try clear c2
   try clear p2
   try clear c6
   try clear c9
   obtain ⟨kq, x21_3, rfl, HA, HJ3, HB⟩ := hcut
   cases kq with
   | zero => exact absurd HA.out (by simp [ropewaylaw10_CellsTells.j0])
   | succ kj3 =>
    have H := HA.out
    clear HA
    simp only [ropewaylaw10_CellsTells.j0] at H
    by_cases c12 : x21_3 = true
    · subst c12
      have H1 : (some false) = some r := by rw [if_pos rfl] at H; exact H
      clear H
      have H := H1
      clear H1
      exact absurd (Option.some.inj H) (by rw [hr1_.out]; decide)
    replace c12 := Bool.eq_false_iff.mpr c12
    subst c12
    have H1 : ((ropewayref10_Check.f kj3 l0).bind fun t342 => (if t342 = 0 then ((ropewayref10_Check.f kj3 l1).bind fun t343 => (ropewaylaw10_CellsTells.j1 kj3 l0 l1 a2 (t343 != 0))) else (ropewaylaw10_CellsTells.j1 kj3 l0 l1 a2 true))) = some r := by rw [if_neg (show ¬ (false = true) by decide)] at H; exact H
    clear H
    have H := H1
    clear H1
    have HC13 := Aside0.mk H
    clear H
    go_upto_region 3 with (fail)
    go_cut [29] (fun v29 wc => ∃ (kq : Nat) (x29_12 : Bool), v29 = .bool x29_12 ∧ Aside0 (ropewaylaw10_CellsTells.j1 kq l0 l1 a2 x29_12 = some r) ∧ Aside0 (kq ≤ kj3) ∧ Aside0 (Below w.heap.size w wc))
    case first =>
     have H := HC13.out
     clear HC13
     replace H := Option.bind_eq_some_iff.mp H
     obtain ⟨t342, A140, H⟩ := H
     replace H : (if t342 = 0 then ((ropewayref10_Check.f kj3 l1).bind fun t343 => (ropewaylaw10_CellsTells.j1 kj3 l0 l1 a2 (t343 != 0))) else (ropewaylaw10_CellsTells.j1 kj3 l0 l1 a2 true)) = some r := H
     have A14 := Aside0.mk A140
     clear A140
     by_cases c15 : t342 = 0
     rotate_left
     · rw [if_neg c15] at H
       have c15b0 : (t342 == 0) = false := beq_eq_false_iff_ne.mpr c15
       have c15b1 : (t342 != 0) = true := bne_iff_ne.mpr c15
       (first | rw [c15b0] | (simp only [i64_w, i32_w]; rw [c15b0]) | skip)
       have H' := Aside0.mk H
       clear H
       go_wp2_with (first | ((with_reducible refine gate_callee (f := 34) rfl ?_); refine goL_ (some 23) Try.func34 #[.slice A0 l0.length c0] ?_; (with_reducible refine (ropewayref10_Check.calls kj3 _ _ l0 t342 _ ?side1 ?side2 A14.out).mono ?_); (case side1 => repeat (first | exact (Kd.C_below HR0.out HB.out) | (with_reducible refine Kd.C_alloc ?_ _) | (with_reducible refine Kd.C_drewN ?_ _) | (with_reducible refine Kd.C_drew ?_))); (case side2 => exact HC0.out); rintro e w19 ⟨rfl, hb⟩; refine ⟨_, rfl, ?_⟩; have n0_ := Aside0.mk (below_step bel_ hb); clear HB; have HB := n0_; clear n0_; (try clear hb); (try clear hb2); (try clear hk); (try clear hi)))
       go_meet
       case rel => exact ⟨_, (true), (by first | rfl | (simp; done) | (simp [*]; done) | (simp; grind)), H', ⟨by have := HJ3.out; first | omega | exact Nat.le_refl _⟩, ⟨bel_⟩⟩
     rw [if_pos c15] at H
     have c15b0 : (t342 == 0) = true := beq_iff_eq.mpr c15
     have c15b1 : (t342 != 0) = false := bne_eq_false_iff_eq.mpr c15
     clear c15
     (first | rw [c15b0] | (simp only [i64_w, i32_w]; rw [c15b0]) | skip)
     replace H := Option.bind_eq_some_iff.mp H
     obtain ⟨t343, A160, H⟩ := H
     replace H : (ropewaylaw10_CellsTells.j1 kj3 l0 l1 a2 (t343 != 0)) = some r := H
     have A16 := Aside0.mk A160
     clear A160
     have H' := Aside0.mk H
     clear H
     go_wp2_with (first | ((with_reducible refine gate_callee (f := 34) rfl ?_); refine goL_ (some 23) Try.func34 #[.slice A0 l0.length c0] ?_; (with_reducible refine (ropewayref10_Check.calls kj3 _ _ l0 t342 _ ?side1 ?side2 A14.out).mono ?_); (case side1 => repeat (first | exact (Kd.C_below HR0.out HB.out) | (with_reducible refine Kd.C_alloc ?_ _) | (with_reducible refine Kd.C_drewN ?_ _) | (with_reducible refine Kd.C_drew ?_))); (case side2 => exact HC0.out); rintro e w17 ⟨rfl, hb⟩; refine ⟨_, rfl, ?_⟩; have n0_ := Aside0.mk (below_step bel_ hb); clear HB; have HB := n0_; clear n0_; (try clear hb); (try clear hb2); (try clear hk); (try clear hi)) | (go_at_call 34; (with_reducible refine (ropewayref10_Check.calls kj3 _ _ l1 t343 _ ?side1 ?side2 A16.out).mono ?_); (case side1 => repeat (first | exact (Kd.C_below HR1.out HB.out) | (with_reducible refine Kd.C_alloc ?_ _) | (with_reducible refine Kd.C_drewN ?_ _) | (with_reducible refine Kd.C_drew ?_))); (case side2 => exact HC1.out); rintro e w18 ⟨rfl, hb⟩; have n0_ := Aside0.mk (below_step bel_ hb); clear HB; have HB := n0_; clear n0_; (try clear hb); (try clear hb2); (try clear hk); (try clear hi)))
     go_meet
     case rel => exact ⟨_, ((t343 != 0)), (by first | rfl | (simp; done) | (simp [*]; done) | (simp; grind)), H', ⟨by have := HJ3.out; first | omega | exact Nat.le_refl _⟩, ⟨bel_⟩⟩
    case rest =>
     clear HC13
     try clear c1
     try clear c2
     try clear p2
     try clear c3
     try clear c6
     try clear c9
     try clear c12
     try clear c15
     try clear c15b0
     try clear c15b1
     try clear p2
     obtain ⟨kq, x29_12, rfl, HA, HJ12, HB⟩ := hcut
     cases kq with
     | zero => exact absurd HA.out (by simp [ropewaylaw10_CellsTells.j1])
     | succ kj12 =>
      have H := HA.out
      clear HA
      simp only [ropewaylaw10_CellsTells.j1] at H
      by_cases c20 : x29_12 = true
      · subst c20
        have H1 : (some true) = some r := by rw [if_pos rfl] at H; exact H
        clear H
        have H := H1
        clear H1
        obtain rfl := Option.some.inj H
        go_wp2
        go_ret
        exact ⟨by first | rfl | (simp [errW_none, errW_some] <;> rfl) | (simp [*, errW_none, errW_some] <;> rfl), bel_⟩
      replace c20 := Bool.eq_false_iff.mpr c20
      subst c20
      have H1 : ((some (([] : List (S41)) : List (S41))).bind fun y344 => (if y344.length + l0.length < 5864062014805 then ((some (y344 ++ l0 : List (S41))).bind fun y347 => ((some (([] : List (S41)) : List (S41))).bind fun y350 => (if y350.length + l1.length < 5864062014805 then ((some (y350 ++ l1 : List (S41))).bind fun y353 => ((cells_Of.f kj12 y347 a2).bind fun bt356 => ((ropewayref10_Of.f kj12 l0 a2).bind fun bt360 => (if (!(bt356.1 == bt360.1) || (!(bt356.2.1 == bt360.2.1))) = true then (ropewaylaw10_CellsTells.j2 kj12 l0 l1 y347 y353 true) else (if (bt356.2.2 != bt360.2.2) = true then (ropewaylaw10_CellsTells.j2 kj12 l0 l1 y347 y353 true) else ((cells_Merge.f kj12 y347 y353).bind fun t364 => ((ropewayref10_Merge.f kj12 l0 l1).bind fun t367 => ((ropewayref10_Same.f kj12 t364 t367).bind fun t370 => (if t370 = true then ((cells_News.f kj12 y347 y353).bind fun t371 => ((ropewayref10_News.f kj12 l0 l1).bind fun t374 => ((ropewayref10_Same.f kj12 t371 t374).bind fun t377 => (ropewaylaw10_CellsTells.j2 kj12 l0 l1 y347 y353 (!t377))))) else (ropewaylaw10_CellsTells.j2 kj12 l0 l1 y347 y353 true)))))))))) else (none)))) else (none))) = some r := by rw [if_neg (show ¬ (false = true) by decide)] at H; exact H
      clear H
      have H := H1
      clear H1
      obtain ⟨y344, hy344⟩ : ∃ y_ : List (S41), y_ = (([] : List (S41))) := ⟨_, rfl⟩
      replace H : (if y344.length + l0.length < 5864062014805 then ((some (y344 ++ l0 : List (S41))).bind fun y347 => ((some (([] : List (S41)) : List (S41))).bind fun y350 => (if y350.length + l1.length < 5864062014805 then ((some (y350 ++ l1 : List (S41))).bind fun y353 => ((cells_Of.f kj12 y347 a2).bind fun bt356 => ((ropewayref10_Of.f kj12 l0 a2).bind fun bt360 => (if (!(bt356.1 == bt360.1) || (!(bt356.2.1 == bt360.2.1))) = true then (ropewaylaw10_CellsTells.j2 kj12 l0 l1 y347 y353 true) else (if (bt356.2.2 != bt360.2.2) = true then (ropewaylaw10_CellsTells.j2 kj12 l0 l1 y347 y353 true) else ((cells_Merge.f kj12 y347 y353).bind fun t364 => ((ropewayref10_Merge.f kj12 l0 l1).bind fun t367 => ((ropewayref10_Same.f kj12 t364 t367).bind fun t370 => (if t370 = true then ((cells_News.f kj12 y347 y353).bind fun t371 => ((ropewayref10_News.f kj12 l0 l1).bind fun t374 => ((ropewayref10_Same.f kj12 t371 t374).bind fun t377 => (ropewaylaw10_CellsTells.j2 kj12 l0 l1 y347 y353 (!t377))))) else (ropewaylaw10_CellsTells.j2 kj12 l0 l1 y347 y353 true)))))))))) else (none)))) else (none)) = some r := by first | (rw [hy344]; with_reducible exact H) | (have H2_ := (Option.bind_some _ _).symm.trans H; rw [hy344]; with_reducible exact H2_) | (have H2_ := (Option.bind_some _ _).symm.trans H; with_reducible exact H2_) | with_reducible exact H | (rw [hy344]; exact H) | exact H
      have Ny344 := Aside0.mk hy344
      clear hy344
      by_cases c21 : y344.length + l0.length < 5864062014805
      rotate_left
      · rw [if_neg c21] at H
        exact absurd H (by simp)
      rw [if_pos c21] at H
      have LMc21 := Aside0.mk c21
      clear c21
      obtain ⟨y347, hy347⟩ : ∃ y_ : List (S41), y_ = (y344 ++ l0) := ⟨_, rfl⟩
      replace H : ((some (([] : List (S41)) : List (S41))).bind fun y350 => (if y350.length + l1.length < 5864062014805 then ((some (y350 ++ l1 : List (S41))).bind fun y353 => ((cells_Of.f kj12 y347 a2).bind fun bt356 => ((ropewayref10_Of.f kj12 l0 a2).bind fun bt360 => (if (!(bt356.1 == bt360.1) || (!(bt356.2.1 == bt360.2.1))) = true then (ropewaylaw10_CellsTells.j2 kj12 l0 l1 y347 y353 true) else (if (bt356.2.2 != bt360.2.2) = true then (ropewaylaw10_CellsTells.j2 kj12 l0 l1 y347 y353 true) else ((cells_Merge.f kj12 y347 y353).bind fun t364 => ((ropewayref10_Merge.f kj12 l0 l1).bind fun t367 => ((ropewayref10_Same.f kj12 t364 t367).bind fun t370 => (if t370 = true then ((cells_News.f kj12 y347 y353).bind fun t371 => ((ropewayref10_News.f kj12 l0 l1).bind fun t374 => ((ropewayref10_Same.f kj12 t371 t374).bind fun t377 => (ropewaylaw10_CellsTells.j2 kj12 l0 l1 y347 y353 (!t377))))) else (ropewaylaw10_CellsTells.j2 kj12 l0 l1 y347 y353 true)))))))))) else (none))) = some r := by first | (rw [hy347]; with_reducible exact H) | (have H2_ := (Option.bind_some _ _).symm.trans H; rw [hy347]; with_reducible exact H2_) | (have H2_ := (Option.bind_some _ _).symm.trans H; with_reducible exact H2_) | with_reducible exact H | (rw [hy347]; exact H) | exact H
      have Ny347 := Aside0.mk hy347
      clear hy347
      obtain ⟨y350, hy350⟩ : ∃ y_ : List (S41), y_ = (([] : List (S41))) := ⟨_, rfl⟩
      replace H : (if y350.length + l1.length < 5864062014805 then ((some (y350 ++ l1 : List (S41))).bind fun y353 => ((cells_Of.f kj12 y347 a2).bind fun bt356 => ((ropewayref10_Of.f kj12 l0 a2).bind fun bt360 => (if (!(bt356.1 == bt360.1) || (!(bt356.2.1 == bt360.2.1))) = true then (ropewaylaw10_CellsTells.j2 kj12 l0 l1 y347 y353 true) else (if (bt356.2.2 != bt360.2.2) = true then (ropewaylaw10_CellsTells.j2 kj12 l0 l1 y347 y353 true) else ((cells_Merge.f kj12 y347 y353).bind fun t364 => ((ropewayref10_Merge.f kj12 l0 l1).bind fun t367 => ((ropewayref10_Same.f kj12 t364 t367).bind fun t370 => (if t370 = true then ((cells_News.f kj12 y347 y353).bind fun t371 => ((ropewayref10_News.f kj12 l0 l1).bind fun t374 => ((ropewayref10_Same.f kj12 t371 t374).bind fun t377 => (ropewaylaw10_CellsTells.j2 kj12 l0 l1 y347 y353 (!t377))))) else (ropewaylaw10_CellsTells.j2 kj12 l0 l1 y347 y353 true)))))))))) else (none)) = some r := by first | (rw [hy350]; with_reducible exact H) | (have H2_ := (Option.bind_some _ _).symm.trans H; rw [hy350]; with_reducible exact H2_) | (have H2_ := (Option.bind_some _ _).symm.trans H; with_reducible exact H2_) | with_reducible exact H | (rw [hy350]; exact H) | exact H
      have Ny350 := Aside0.mk hy350
      clear hy350
      by_cases c22 : y350.length + l1.length < 5864062014805
      rotate_left
      · rw [if_neg c22] at H
        exact absurd H (by simp)
      rw [if_pos c22] at H
      have LMc22 := Aside0.mk c22
      clear c22
      obtain ⟨y353, hy353⟩ : ∃ y_ : List (S41), y_ = (y350 ++ l1) := ⟨_, rfl⟩
      replace H : ((cells_Of.f kj12 y347 a2).bind fun bt356 => ((ropewayref10_Of.f kj12 l0 a2).bind fun bt360 => (if (!(bt356.1 == bt360.1) || (!(bt356.2.1 == bt360.2.1))) = true then (ropewaylaw10_CellsTells.j2 kj12 l0 l1 y347 y353 true) else (if (bt356.2.2 != bt360.2.2) = true then (ropewaylaw10_CellsTells.j2 kj12 l0 l1 y347 y353 true) else ((cells_Merge.f kj12 y347 y353).bind fun t364 => ((ropewayref10_Merge.f kj12 l0 l1).bind fun t367 => ((ropewayref10_Same.f kj12 t364 t367).bind fun t370 => (if t370 = true then ((cells_News.f kj12 y347 y353).bind fun t371 => ((ropewayref10_News.f kj12 l0 l1).bind fun t374 => ((ropewayref10_Same.f kj12 t371 t374).bind fun t377 => (ropewaylaw10_CellsTells.j2 kj12 l0 l1 y347 y353 (!t377))))) else (ropewaylaw10_CellsTells.j2 kj12 l0 l1 y347 y353 true))))))))) = some r := by first | (rw [hy353]; with_reducible exact H) | (have H2_ := (Option.bind_some _ _).symm.trans H; rw [hy353]; with_reducible exact H2_) | (have H2_ := (Option.bind_some _ _).symm.trans H; with_reducible exact H2_) | with_reducible exact H | (rw [hy353]; exact H) | exact H
      have Ny353 := Aside0.mk hy353
      clear hy353
      replace H := Option.bind_eq_some_iff.mp H
      obtain ⟨⟨t356, t357, t358⟩, A230, H⟩ := H
      replace H : ((ropewayref10_Of.f kj12 l0 a2).bind fun bt360 => (if (!(t356 == bt360.1) || (!(t357 == bt360.2.1))) = true then (ropewaylaw10_CellsTells.j2 kj12 l0 l1 y347 y353 true) else (if (t358 != bt360.2.2) = true then (ropewaylaw10_CellsTells.j2 kj12 l0 l1 y347 y353 true) else ((cells_Merge.f kj12 y347 y353).bind fun t364 => ((ropewayref10_Merge.f kj12 l0 l1).bind fun t367 => ((ropewayref10_Same.f kj12 t364 t367).bind fun t370 => (if t370 = true then ((cells_News.f kj12 y347 y353).bind fun t371 => ((ropewayref10_News.f kj12 l0 l1).bind fun t374 => ((ropewayref10_Same.f kj12 t371 t374).bind fun t377 => (ropewaylaw10_CellsTells.j2 kj12 l0 l1 y347 y353 (!t377))))) else (ropewaylaw10_CellsTells.j2 kj12 l0 l1 y347 y353 true)))))))) = some r := H
      have A23 := Aside0.mk A230
      clear A230
      replace H := Option.bind_eq_some_iff.mp H
      obtain ⟨⟨t360, t361, t362⟩, A240, H⟩ := H
      replace H : (if (!(t356 == t360) || (!(t357 == t361))) = true then (ropewaylaw10_CellsTells.j2 kj12 l0 l1 y347 y353 true) else (if (t358 != t362) = true then (ropewaylaw10_CellsTells.j2 kj12 l0 l1 y347 y353 true) else ((cells_Merge.f kj12 y347 y353).bind fun t364 => ((ropewayref10_Merge.f kj12 l0 l1).bind fun t367 => ((ropewayref10_Same.f kj12 t364 t367).bind fun t370 => (if t370 = true then ((cells_News.f kj12 y347 y353).bind fun t371 => ((ropewayref10_News.f kj12 l0 l1).bind fun t374 => ((ropewayref10_Same.f kj12 t371 t374).bind fun t377 => (ropewaylaw10_CellsTells.j2 kj12 l0 l1 y347 y353 (!t377))))) else (ropewaylaw10_CellsTells.j2 kj12 l0 l1 y347 y353 true))))))) = some r := H
      have A24 := Aside0.mk A240
      clear A240
      have HC25 := Aside0.mk H
      clear H
      go_upto_region 8 with (first | ((with_reducible refine gate_dst (N := 30) rfl ?_); refine Kd.R_lit k41 _ 41 ?hg (N := 30) ?hd (xs := ([] : List (S41))) (inner := []) (ok := fun _ => True) (okp := fun _ => True) ?hr ?hp (fun _ hk => hk) trivial (Below.refl _ _) (Nat.le_refl _) (by simp) ?_; (case hd => rfl); (case hg => rfl); (case hr => first | (go_simp; done) | (go_simp; rfl)); (case hp => exact (Reps.none _ _)); intro v345 w26 ho27 hb hg_ hnew_; clear hg_ hnew_; (first | rw [← Ny344.out] at ho27 | (simp only [Int.reduceToNat] at ho27; rw [← Ny344.out] at ho27)); have n0_ := Aside0.mk (Kd.R_lower ho27 (below_size bel_)); have n1_ := Aside0.mk (below_step bel_ hb); clear HB; have HO346 := n0_; have HB := n1_; clear n0_ n1_; clear hb ho27) | ((with_reducible refine gate_builtin (b := .append) (xs := #[.tmp 30, .tmp 31]) rfl ?_); at_builtin; refine Kd.R_append_rows k41 (w0 := w) w.heap.size rfl (.tmp 30) (.tmp 31) 36 41 (.agg #[(.int .i64 0), (.int .i64 0), (.int .i64 0)]) 24 rfl Try.underlying36 info41 rfl (by decide) (by omega) v345 y344 l0 _ _ _ (fun _ => True) (fun _ => False) rfl rfl ?aO ?aR (fun _ _ h => h) (fun _ h => h.elim) ?aF ?aB ?aS ?aL ?_; (case aR => repeat (first | exact (Kd.C_below HR0.out HB.out) | (with_reducible refine Kd.C_alloc ?_ _) | (with_reducible refine Kd.C_drewN ?_ _) | (with_reducible refine Kd.C_drew ?_))); (case aB => exact bel_); (case aF => exact (fun _ _ => trivial)); (case aO => exact (rl_ HO346)); (case aS => exact (below_size bel_)); (case aL => have := LMc21.out; omega); intro v348 w28 ho hb hg hat; rw [← Ny347.out] at ho; have n0_ := Aside0.mk (hb); have n1_ := Aside0.mk (ho); clear HB; clear HO346; have HB := n0_; have HO349 := n1_; clear n0_ n1_; clear ho hb hg hat) | ((with_reducible refine gate_dst (N := 33) rfl ?_); refine Kd.R_lit k41 _ 41 ?hg (N := 33) ?hd (xs := ([] : List (S41))) (inner := []) (ok := fun _ => True) (okp := fun _ => True) ?hr ?hp (fun _ hk => hk) trivial (Below.refl _ _) (Nat.le_refl _) (by simp) ?_; (case hd => rfl); (case hg => rfl); (case hr => first | (go_simp; done) | (go_simp; rfl)); (case hp => exact (Reps.none _ _)); intro v351 w29 ho30 hb hg_ hnew_; clear hg_ hnew_; (first | rw [← Ny350.out] at ho30 | (simp only [Int.reduceToNat] at ho30; rw [← Ny350.out] at ho30)); have n0_ := Aside0.mk (Kd.R_elder' (rl_ HO349) (Kd.R_base ho30) hb); have n1_ := Aside0.mk (Kd.R_lower (Kd.R_new' ho30 (Kd.R_lt (rl_ HO349))) (below_size bel_)); have n2_ := Aside0.mk (below_step bel_ hb); clear HO349; clear HB; have HO349 := n0_; have HO352 := n1_; have HB := n2_; clear n0_ n1_ n2_; clear hb ho30) | ((with_reducible refine gate_builtin (b := .append) (xs := #[.tmp 33, .tmp 34]) rfl ?_); at_builtin; refine Kd.R_append_rows k41 (w0 := w) w.heap.size rfl (.tmp 33) (.tmp 34) 36 41 (.agg #[(.int .i64 0), (.int .i64 0), (.int .i64 0)]) 24 rfl Try.underlying36 info41 rfl (by decide) (by omega) v351 y350 l1 _ _ _ (fun k_ => some k_ ≠ (v348 : Value).ownBlock) (fun _ => False) rfl rfl ?aO ?aR (fun _ _ h => h) (fun _ h => h.elim) ?aF ?aB ?aS ?aL ?_; (case aR => repeat (first | exact (Kd.C_below HR1.out HB.out) | (with_reducible refine Kd.C_alloc ?_ _) | (with_reducible refine Kd.C_drewN ?_ _) | (with_reducible refine Kd.C_drew ?_))); (case aB => exact bel_); (case aF => exact (fun k_ hk => Kd.fresh' (Kd.R_lt (rl_ HO349)) k_ hk)); (case aO => exact (by (with_reducible repeat (first | apply Kd.R_alloc | apply Kd.R_drewN | apply Kd.R_drew)); exact Kd.R_mono HO352.out (fun _ hk => hk.2))); (case aS => exact (below_size bel_)); (case aL => have := LMc22.out; omega); intro v354 w31 ho hb hg hat; rw [← Ny353.out] at ho; have n0_ := Aside0.mk (Kd.R_after (ok := (fun _ => True)) (rl_ HO349) hg hat); have n1_ := Aside0.mk (hb); have n2_ := Aside0.mk (ho); clear HO349; clear HB; clear HO352; have HO349 := n0_; have HB := n1_; have HO355 := n2_; clear n0_ n1_ n2_; clear ho hb hg hat; obtain ⟨Ao32, co32, eo32⟩ := Kd.R_slice HO349.out; subst eo32) | ((with_reducible refine gate_callee (f := 30) rfl ?_); refine goL_ (some 39) Try.func30 #[.slice Ao32 y347.length co32, .int .i64 a2] ?_; (with_reducible refine (cells_Of.calls kj12 _ _ y347 a2 t356 t357 t358 _ ?side1 ?side2 A23.out).mono ?_); (case side1 => repeat (first | exact (Kd.R_reads' HO349.out).2.2 | (with_reducible refine Kd.C_alloc ?_ _) | (with_reducible refine Kd.C_drewN ?_ _) | (with_reducible refine Kd.C_drew ?_))); (case side2 => exact (Kd.R_reads' HO349.out).2.1); rintro e w33 ⟨rfl, hb⟩; refine ⟨_, rfl, ?_⟩; have n0_ := Aside0.mk (Kd.R_below (rl_ HO349) hb); have n1_ := Aside0.mk (Kd.R_below (rl_ HO355) hb); have n2_ := Aside0.mk (below_step bel_ hb); clear HO349; clear HO355; clear HB; have HO349 := n0_; have HO355 := n1_; have HB := n2_; clear n0_ n1_ n2_; (try clear hb); (try clear hb2); (try clear hk); (try clear hi)) | ((with_reducible refine gate_dst (N := 9) rfl ?_); refine box_event ?hg (N := 9) ?hd (cs := #[.int .i64 0, .int .i64 0]) (t := 25) ?hr ?_; (case hd => rfl); (case hg => rfl); (case hr => first | (go_simp; done) | (go_simp; rfl)); intro gb359 hg w34 hbox hb; have n0_ := Aside0.mk (Kd.R_below (rl_ HO349) hb); have n1_ := Aside0.mk (Kd.R_below (rl_ HO355) hb); have n2_ := Aside0.mk (below_step bel_ hb); have n3_ := Aside0.mk (hbox); have n4_ := Aside0.mk (bs_ hg); have n5_ := Aside0.mk (bs_ hg); clear HO349; clear HO355; clear HB; have HO349 := n0_; have HO355 := n1_; have HB := n2_; have BK359 := n3_; have GW359 := n4_; have GE359 := n5_; clear n0_ n1_ n2_ n3_ n4_ n5_; clear hb hbox hg; have hcz35_0 : w34.cell? ⟨gb359, 0, none⟩ = some (.int .i64 0) := (blk_cell BK359.out 0).trans rfl; have hcz35_1 : w34.cell? ⟨gb359, 1, none⟩ = some (.int .i64 0) := (blk_cell BK359.out 1).trans rfl; have hfz35_0 := blk_frozen BK359.out 0; have hfz35_1 := blk_frozen BK359.out 1) | ((with_reducible refine gate_callee (f := 35) rfl ?_); refine goL_ (some 45) Try.func35 #[.slice A0 l0.length c0, .int .i64 a2] ?_; (with_reducible refine (ropewayref10_Of.calls kj12 _ _ l0 a2 t360 t361 t362 _ ?side1 ?side2 A24.out).mono ?_); (case side1 => exact Kd.C_below HR0.out bel_); (case side2 => exact HC0.out); rintro e w36 ⟨rfl, hb⟩; refine ⟨_, rfl, ?_⟩; have n0_ := Aside0.mk (Kd.R_below (by (with_reducible repeat (first | apply Kd.R_alloc | apply Kd.R_drewN | apply Kd.R_drew)); exact (Kd.R_mono (Kd.R_far (p := ⟨gb359, 1, none⟩) (Kd.R_far (p := ⟨gb359, 0, none⟩) (Kd.R_types HO349.out BK359.out (by decide)) (fun _ hk => hk.2) (.int .i64 t356)) (fun _ hk => hk.2) (.int .i64 t357)) (fun _ h_ => h_.1))) hb); have n1_ := Aside0.mk (Kd.R_below (by (with_reducible repeat (first | apply Kd.R_alloc | apply Kd.R_drewN | apply Kd.R_drew)); exact (Kd.R_mono (Kd.R_far (p := ⟨gb359, 1, none⟩) (Kd.R_far (p := ⟨gb359, 0, none⟩) (Kd.R_types HO355.out BK359.out (by decide)) (fun _ hk => hk.2) (.int .i64 t356)) (fun _ hk => hk.2) (.int .i64 t357)) (fun _ h_ => h_.1))) hb); have n2_ := Aside0.mk (blk_below (g := gb359) (o := .cells #[.int .i64 t356, .int .i64 t357] 25 (0, 0)) (by (with_reducible repeat (first | refine blk_drewN ?_ _ | refine blk_drew ?_ | refine blk_alloc ?_ _)); refine blk_put (cs := #[.int .i64 t356, .int .i64 0]) ?_ 1 _ rfl; (with_reducible repeat (first | refine blk_drewN ?_ _ | refine blk_drew ?_ | refine blk_alloc ?_ _)); refine blk_put (cs := #[.int .i64 0, .int .i64 0]) ?_ 0 _ rfl; (with_reducible repeat (first | refine blk_drewN ?_ _ | refine blk_drew ?_ | refine blk_alloc ?_ _)); exact BK359.out) hb); have n3_ := Aside0.mk (below_step bel_ hb); clear HO349; clear HO355; clear BK359; clear HB; have HO349 := n0_; have HO355 := n1_; have BK359 := n2_; have HB := n3_; clear n0_ n1_ n2_ n3_; (try clear hb); (try clear hb2); (try clear hk); (try clear hi)) | ((with_reducible refine gate_dst (N := 11) rfl ?_); refine box_event ?hg (N := 11) ?hd (cs := #[.int .i64 0, .int .i64 0]) (t := 25) ?hr ?_; (case hd => rfl); (case hg => rfl); (case hr => first | (go_simp; done) | (go_simp; rfl)); intro gb363 hg w37 hbox hb; have n0_ := Aside0.mk (Kd.R_below (rl_ HO349) hb); have n1_ := Aside0.mk (Kd.R_below (rl_ HO355) hb); have n2_ := Aside0.mk (bb_ BK359 hb); have n3_ := Aside0.mk (below_step bel_ hb); have n4_ := Aside0.mk (hbox); have n5_ := Aside0.mk (bs_ hg); have n6_ := Aside0.mk (bs_ hg); have n7_ := Aside0.mk (nl_ BK359 hg); have n8_ := Aside0.mk (ng_ BK359 hg); clear HO349; clear HO355; clear BK359; clear HB; have HO349 := n0_; have HO355 := n1_; have BK359 := n2_; have HB := n3_; have BK363 := n4_; have GW363 := n5_; have GE363 := n6_; have NB359_363 := n7_; have NB363_359 := n8_; clear n0_ n1_ n2_ n3_ n4_ n5_ n6_ n7_ n8_; clear hb hbox hg; have hnb38 := NB363_359.out; have hnc38 := NB359_363.out; have hcz39_0 : w37.cell? ⟨gb363, 0, none⟩ = some (.int .i64 0) := (blk_cell BK363.out 0).trans rfl; have hcz39_1 : w37.cell? ⟨gb363, 1, none⟩ = some (.int .i64 0) := (blk_cell BK363.out 1).trans rfl; have hfz39_0 := blk_frozen BK363.out 0; have hfz39_1 := blk_frozen BK363.out 1))
      (try simp only [Act.put, List.setIfInBounds_toArray, List.set_cons_zero, List.set_cons_succ])
      go_cut [75] (fun v75 wc => ∃ (kq : Nat) (x75_24 : Bool), v75 = .bool x75_24 ∧ Aside0 (ropewaylaw10_CellsTells.j2 kq l0 l1 y347 y353 x75_24 = some r) ∧ Aside0 (kq ≤ kj12) ∧ Aside0 (Kd.R k41 41 wc w.heap.size (fun k_ => some k_ ≠ (v354 : Value).ownBlock) (.slice Ao32 y347.length co32) y347) ∧ Aside0 (Kd.R k41 41 wc w.heap.size (fun k_ => some k_ ≠ ((.slice Ao32 y347.length co32) : Value).ownBlock) v354 y353) ∧ Aside0 (wc.heap[gb359]? = some (.cells #[.int .i64 t356, .int .i64 t357] 25 (0, 0))) ∧ Aside0 (wc.heap[gb363]? = some (.cells #[.int .i64 t360, .int .i64 t361] 25 (0, 0))) ∧ Aside0 (Below w.heap.size w wc))
      case first =>
       have H := HC25.out
       clear HC25
       by_cases c40 : (!(t356 == t360) || (!(t357 == t361))) = true
       · rw [if_pos c40] at H
         have c40b0 : (!(t356 == t360) || (!(t357 == t361))) = true := c40
         clear c40
         (first | rw [c40b0] | (simp only [i64_w, i32_w]; rw [c40b0]) | skip)
         have hr1 := hr1_.out
         subst hr1
         (cases kj12) <;> simp [ropewaylaw10_CellsTells.j2] at H
       rw [if_neg c40] at H
       have c40b0 : (!(t356 == t360) || (!(t357 == t361))) = false := by simpa using c40
       clear c40
       (first | rw [c40b0] | (simp only [i64_w, i32_w]; rw [c40b0]) | skip)
       by_cases c41 : (t358 != t362) = true
       · rw [if_pos c41] at H
         have c41b0 : (t358 != t362) = true := c41
         (try (have c41b1 : decide (t358 = t362) = false := by simpa using c41))
         (try (have c41b2 : (t358 == t362) = false := by simpa using c41))
         (try (have c41b3 : ¬ (t358 = t362) := by simpa using c41))
         clear c41
         have hr1 := hr1_.out
         subst hr1
         (cases kj12) <;> simp [ropewaylaw10_CellsTells.j2] at H
       rw [if_neg c41] at H
       have c41b0 : (t358 != t362) = false := by simpa using c41
       (try (have c41b1 : decide (t358 = t362) = true := by simpa using c41))
       (try (have c41b2 : (t358 == t362) = true := by simpa using c41))
       clear c41
       replace H := Option.bind_eq_some_iff.mp H
       obtain ⟨t364, A420, H⟩ := H
       replace H : ((ropewayref10_Merge.f kj12 l0 l1).bind fun t367 => ((ropewayref10_Same.f kj12 t364 t367).bind fun t370 => (if t370 = true then ((cells_News.f kj12 y347 y353).bind fun t371 => ((ropewayref10_News.f kj12 l0 l1).bind fun t374 => ((ropewayref10_Same.f kj12 t371 t374).bind fun t377 => (ropewaylaw10_CellsTells.j2 kj12 l0 l1 y347 y353 (!t377))))) else (ropewaylaw10_CellsTells.j2 kj12 l0 l1 y347 y353 true)))) = some r := H
       have A42 := Aside0.mk A420
       clear A420
       replace H := Option.bind_eq_some_iff.mp H
       obtain ⟨t367, A430, H⟩ := H
       replace H : ((ropewayref10_Same.f kj12 t364 t367).bind fun t370 => (if t370 = true then ((cells_News.f kj12 y347 y353).bind fun t371 => ((ropewayref10_News.f kj12 l0 l1).bind fun t374 => ((ropewayref10_Same.f kj12 t371 t374).bind fun t377 => (ropewaylaw10_CellsTells.j2 kj12 l0 l1 y347 y353 (!t377))))) else (ropewaylaw10_CellsTells.j2 kj12 l0 l1 y347 y353 true))) = some r := H
       have A43 := Aside0.mk A430
       clear A430
       replace H := Option.bind_eq_some_iff.mp H
       obtain ⟨t370, A440, H⟩ := H
       replace H : (if t370 = true then ((cells_News.f kj12 y347 y353).bind fun t371 => ((ropewayref10_News.f kj12 l0 l1).bind fun t374 => ((ropewayref10_Same.f kj12 t371 t374).bind fun t377 => (ropewaylaw10_CellsTells.j2 kj12 l0 l1 y347 y353 (!t377))))) else (ropewaylaw10_CellsTells.j2 kj12 l0 l1 y347 y353 true)) = some r := H
       have A44 := Aside0.mk A440
       clear A440
       by_cases c45 : t370 = true
       rotate_left
       · replace c45 := Bool.eq_false_iff.mpr c45
         subst c45
         have H1 : (ropewaylaw10_CellsTells.j2 kj12 l0 l1 y347 y353 true) = some r := by rw [if_neg (show ¬ (false = true) by decide)] at H; exact H
         clear H
         have H := H1
         clear H1
         have hr1 := hr1_.out
         subst hr1
         (cases kj12) <;> simp [ropewaylaw10_CellsTells.j2] at H
       subst c45
       have H1 : ((cells_News.f kj12 y347 y353).bind fun t371 => ((ropewayref10_News.f kj12 l0 l1).bind fun t374 => ((ropewayref10_Same.f kj12 t371 t374).bind fun t377 => (ropewaylaw10_CellsTells.j2 kj12 l0 l1 y347 y353 (!t377))))) = some r := by rw [if_pos rfl] at H; exact H
       clear H
       have H := H1
       clear H1
       replace H := Option.bind_eq_some_iff.mp H
       obtain ⟨t371, A460, H⟩ := H
       replace H : ((ropewayref10_News.f kj12 l0 l1).bind fun t374 => ((ropewayref10_Same.f kj12 t371 t374).bind fun t377 => (ropewaylaw10_CellsTells.j2 kj12 l0 l1 y347 y353 (!t377)))) = some r := H
       have A46 := Aside0.mk A460
       clear A460
       replace H := Option.bind_eq_some_iff.mp H
       obtain ⟨t374, A470, H⟩ := H
       replace H : ((ropewayref10_Same.f kj12 t371 t374).bind fun t377 => (ropewaylaw10_CellsTells.j2 kj12 l0 l1 y347 y353 (!t377))) = some r := H
       have A47 := Aside0.mk A470
       clear A470
       replace H := Option.bind_eq_some_iff.mp H
       obtain ⟨t377, A480, H⟩ := H
       replace H : (ropewaylaw10_CellsTells.j2 kj12 l0 l1 y347 y353 (!t377)) = some r := H
       have A48 := Aside0.mk A480
       clear A480
       have H' := Aside0.mk H
       clear H
       have hnb49 := NB359_363.out
       have hnc49 := NB363_359.out
       have hcz50_0 : w37.cell? ⟨gb359, 0, none⟩ = some (.int .i64 t356) := (blk_cell BK359.out 0).trans rfl
       have hcz50_1 : w37.cell? ⟨gb359, 1, none⟩ = some (.int .i64 t357) := (blk_cell BK359.out 1).trans rfl
       have hfz50_0 := blk_frozen BK359.out 0
       have hfz50_1 := blk_frozen BK359.out 1
       have hcz51_0 : w37.cell? ⟨gb363, 0, none⟩ = some (.int .i64 0) := (blk_cell BK363.out 0).trans rfl
       have hcz51_1 : w37.cell? ⟨gb363, 1, none⟩ = some (.int .i64 0) := (blk_cell BK363.out 1).trans rfl
       have hfz51_0 := blk_frozen BK363.out 0
       have hfz51_1 := blk_frozen BK363.out 1
       obtain ⟨Ao52, co52, eo52⟩ := Kd.R_slice HO355.out
       subst eo52
       go_wp2_with (first | (go_at_call 29; (with_reducible refine (cells_Merge.calls kj12 (fun k_ => some k_ = (.slice Ao32 y347.length co32 : Value).ownBlock) _ _ y347 _ _ y353 t364 _ ?side1 ?side2 ?side3 A42.out).mono ?_); (case side1 => exact Kd.R_V (Kd.R_tight rfl ((Kd.R_far (p := ⟨gb363, 1, none⟩) (Kd.R_far (p := ⟨gb363, 0, none⟩) (Kd.R_types (Kd.R_types (Kd.R_types HO349.out BK359.out (by decide)) BK363.out (by decide)) BK363.out (by decide)) (fun _ hk => hk.2) (.int .i64 t360)) (fun _ hk => hk.2) (.int .i64 t361))))); (case side2 => refine (Kd.R_reads' (e := 41) (base := w.heap.size) (ok := fun k_ => some k_ ≠ (.slice Ao32 y347.length co32 : Value).ownBlock) (n := y353.length) (c := co52) ?_).2.2; exact (by (with_reducible repeat (first | apply Kd.R_alloc | apply Kd.R_drewN | apply Kd.R_drew)); exact (Kd.R_mono (Kd.R_far (p := ⟨gb363, 1, none⟩) (Kd.R_far (p := ⟨gb363, 0, none⟩) (Kd.R_types HO355.out BK363.out (by decide)) (fun _ hk => hk.2) (.int .i64 t360)) (fun _ hk => hk.2) (.int .i64 t361)) (fun _ h_ => h_.1)))); (case side3 => exact (Kd.R_reads' HO355.out).2.1); rintro e w53 ⟨v365, rfl, ho0, hb⟩; have n0_ := Aside0.mk (Kd.R_elder' (by (with_reducible repeat (first | apply Kd.R_alloc | apply Kd.R_drewN | apply Kd.R_drew)); exact (Kd.R_mono (Kd.R_far (p := ⟨gb363, 1, none⟩) (Kd.R_far (p := ⟨gb363, 0, none⟩) (Kd.R_types HO349.out BK363.out (by decide)) (fun _ hk => hk.2) (.int .i64 t360)) (fun _ hk => hk.2) (.int .i64 t361)) (fun _ h_ => h_.1))) (Kd.R_base ho0) hb); have n1_ := Aside0.mk (Kd.R_elder' (by (with_reducible repeat (first | apply Kd.R_alloc | apply Kd.R_drewN | apply Kd.R_drew)); exact (Kd.R_mono (Kd.R_far (p := ⟨gb363, 1, none⟩) (Kd.R_far (p := ⟨gb363, 0, none⟩) (Kd.R_types HO355.out BK363.out (by decide)) (fun _ hk => hk.2) (.int .i64 t360)) (fun _ hk => hk.2) (.int .i64 t361)) (fun _ h_ => h_.1))) (Kd.R_base ho0) hb); have n2_ := Aside0.mk (Kd.R_lower (Kd.R_new' (Kd.R_new' (Kd.R_mono (ok' := fun k_ => True) ho0 (fun _ hk_ => trivial)) (Kd.R_lt (by (with_reducible repeat (first | apply Kd.R_alloc | apply Kd.R_drewN | apply Kd.R_drew)); exact (Kd.R_mono (Kd.R_far (p := ⟨gb363, 1, none⟩) (Kd.R_far (p := ⟨gb363, 0, none⟩) (Kd.R_types HO349.out BK363.out (by decide)) (fun _ hk => hk.2) (.int .i64 t360)) (fun _ hk => hk.2) (.int .i64 t361)) (fun _ h_ => h_.1))))) (Kd.R_lt (by (with_reducible repeat (first | apply Kd.R_alloc | apply Kd.R_drewN | apply Kd.R_drew)); exact (Kd.R_mono (Kd.R_far (p := ⟨gb363, 1, none⟩) (Kd.R_far (p := ⟨gb363, 0, none⟩) (Kd.R_types HO355.out BK363.out (by decide)) (fun _ hk => hk.2) (.int .i64 t360)) (fun _ hk => hk.2) (.int .i64 t361)) (fun _ h_ => h_.1))))) (below_size bel_)); have n3_ := Aside0.mk (blk_below (g := gb359) (o := .cells #[.int .i64 t356, .int .i64 t357] 25 (0, 0)) blf_ hb); have n4_ := Aside0.mk (blk_below (g := gb363) (o := .cells #[.int .i64 t360, .int .i64 t361] 25 (0, 0)) (by (with_reducible repeat (first | refine blk_drewN ?_ _ | refine blk_drew ?_ | refine blk_alloc ?_ _)); refine blk_put (cs := #[.int .i64 t360, .int .i64 0]) ?_ 1 _ rfl; (with_reducible repeat (first | refine blk_drewN ?_ _ | refine blk_drew ?_ | refine blk_alloc ?_ _)); refine blk_put (cs := #[.int .i64 0, .int .i64 0]) ?_ 0 _ rfl; (with_reducible repeat (first | refine blk_drewN ?_ _ | refine blk_drew ?_ | refine blk_alloc ?_ _)); exact BK363.out) hb); have n5_ := Aside0.mk (below_step bel_ hb); clear HO349; clear HO355; clear BK359; clear BK363; clear HB; have HO349 := n0_; have HO355 := n1_; have HO366 := n2_; have BK359 := n3_; have BK363 := n4_; have HB := n5_; clear n0_ n1_ n2_ n3_ n4_ n5_; (try clear hb); (try clear hb2); (try clear hk); (try clear hi); (try clear ho0)) | (go_at_call 36; (with_reducible refine (ropewayref10_Merge.calls kj12 _ _ l0 _ _ l1 t367 _ ?side1 ?side2 ?side3 ?side4 A43.out).mono ?_); (case side1 => repeat (first | exact (Kd.C_below HR0.out HB.out) | (with_reducible refine Kd.C_alloc ?_ _) | (with_reducible refine Kd.C_drewN ?_ _) | (with_reducible refine Kd.C_drew ?_))); (case side2 => exact HC0.out); (case side3 => repeat (first | exact (Kd.C_below HR1.out HB.out) | (with_reducible refine Kd.C_alloc ?_ _) | (with_reducible refine Kd.C_drewN ?_ _) | (with_reducible refine Kd.C_drew ?_))); (case side4 => exact HC1.out); rintro e w54 ⟨v368, rfl, ho0, hb⟩; have n0_ := Aside0.mk (Kd.R_elder' (rl_ HO349) (Kd.R_base ho0) hb); have n1_ := Aside0.mk (Kd.R_elder' (rl_ HO355) (Kd.R_base ho0) hb); have n2_ := Aside0.mk (Kd.R_elder' (rl_ HO366) (Kd.R_base ho0) hb); have n3_ := Aside0.mk (Kd.R_lower (Kd.R_new' (Kd.R_new' (Kd.R_new' ho0 (Kd.R_lt (rl_ HO349))) (Kd.R_lt (rl_ HO355))) (Kd.R_lt (rl_ HO366))) (below_size bel_)); have n4_ := Aside0.mk (bb_ BK359 hb); have n5_ := Aside0.mk (bb_ BK363 hb); have n6_ := Aside0.mk (below_step bel_ hb); clear HO349; clear HO355; clear HO366; clear BK359; clear BK363; clear HB; have HO349 := n0_; have HO355 := n1_; have HO366 := n2_; have HO369 := n3_; have BK359 := n4_; have BK363 := n5_; have HB := n6_; clear n0_ n1_ n2_ n3_ n4_ n5_ n6_; (try clear hb); (try clear hb2); (try clear hk); (try clear hi); (try clear ho0); obtain ⟨Ao55, co55, eo55⟩ := Kd.R_slice HO366.out; subst eo55; obtain ⟨Ao56, co56, eo56⟩ := Kd.R_slice HO369.out; subst eo56) | (go_at_call 32; (with_reducible refine (ropewayref10_Same.calls kj12 _ _ t364 _ _ t367 true _ ?side1 ?side2 ?side3 ?side4 A44.out).mono ?_); (case side1 => repeat (first | exact (Kd.R_reads' HO366.out).2.2 | (with_reducible refine Kd.C_alloc ?_ _) | (with_reducible refine Kd.C_drewN ?_ _) | (with_reducible refine Kd.C_drew ?_))); (case side2 => exact (Kd.R_reads' HO366.out).2.1); (case side3 => repeat (first | exact (Kd.R_reads' HO369.out).2.2 | (with_reducible refine Kd.C_alloc ?_ _) | (with_reducible refine Kd.C_drewN ?_ _) | (with_reducible refine Kd.C_drew ?_))); (case side4 => exact (Kd.R_reads' HO369.out).2.1); rintro e w' ⟨rfl, ⟨nd, rfl⟩⟩) | (go_at_call 31; (with_reducible refine (cells_News.calls kj12 _ _ y347 _ _ y353 t371 _ ?side1 ?side2 ?side3 ?side4 A46.out).mono ?_); (case side1 => repeat (first | exact (Kd.R_reads' HO349.out).2.2 | (with_reducible refine Kd.C_alloc ?_ _) | (with_reducible refine Kd.C_drewN ?_ _) | (with_reducible refine Kd.C_drew ?_))); (case side2 => exact (Kd.R_reads' HO349.out).2.1); (case side3 => repeat (first | exact (Kd.R_reads' HO355.out).2.2 | (with_reducible refine Kd.C_alloc ?_ _) | (with_reducible refine Kd.C_drewN ?_ _) | (with_reducible refine Kd.C_drew ?_))); (case side4 => exact (Kd.R_reads' HO355.out).2.1); rintro e w57 ⟨v372, rfl, ho0, hb⟩; have n0_ := Aside0.mk (Kd.R_elder' (rl_ HO349) (Kd.R_base ho0) hb); have n1_ := Aside0.mk (Kd.R_elder' (rl_ HO355) (Kd.R_base ho0) hb); have n2_ := Aside0.mk (Kd.R_elder' (rl_ HO366) (Kd.R_base ho0) hb); have n3_ := Aside0.mk (Kd.R_elder' (rl_ HO369) (Kd.R_base ho0) hb); have n4_ := Aside0.mk (Kd.R_lower (Kd.R_new' (Kd.R_new' (Kd.R_new' (Kd.R_new' ho0 (Kd.R_lt (rl_ HO349))) (Kd.R_lt (rl_ HO355))) (Kd.R_lt (rl_ HO366))) (Kd.R_lt (rl_ HO369))) (below_size bel_)); have n5_ := Aside0.mk (bb_ BK359 hb); have n6_ := Aside0.mk (bb_ BK363 hb); have n7_ := Aside0.mk (below_step bel_ hb); clear HO349; clear HO355; clear HO366; clear HO369; clear BK359; clear BK363; clear HB; have HO349 := n0_; have HO355 := n1_; have HO366 := n2_; have HO369 := n3_; have HO373 := n4_; have BK359 := n5_; have BK363 := n6_; have HB := n7_; clear n0_ n1_ n2_ n3_ n4_ n5_ n6_ n7_; (try clear hb); (try clear hb2); (try clear hk); (try clear hi); (try clear ho0)) | (go_at_call 37; (with_reducible refine (ropewayref10_News.calls kj12 _ _ l0 _ _ l1 t374 _ ?side1 ?side2 ?side3 ?side4 A47.out).mono ?_); (case side1 => repeat (first | exact (Kd.C_below HR0.out HB.out) | (with_reducible refine Kd.C_alloc ?_ _) | (with_reducible refine Kd.C_drewN ?_ _) | (with_reducible refine Kd.C_drew ?_))); (case side2 => exact HC0.out); (case side3 => repeat (first | exact (Kd.C_below HR1.out HB.out) | (with_reducible refine Kd.C_alloc ?_ _) | (with_reducible refine Kd.C_drewN ?_ _) | (with_reducible refine Kd.C_drew ?_))); (case side4 => exact HC1.out); rintro e w58 ⟨v375, rfl, ho0, hb⟩; have n0_ := Aside0.mk (Kd.R_elder' (rl_ HO349) (Kd.R_base ho0) hb); have n1_ := Aside0.mk (Kd.R_elder' (rl_ HO355) (Kd.R_base ho0) hb); have n2_ := Aside0.mk (Kd.R_elder' (rl_ HO366) (Kd.R_base ho0) hb); have n3_ := Aside0.mk (Kd.R_elder' (rl_ HO369) (Kd.R_base ho0) hb); have n4_ := Aside0.mk (Kd.R_elder' (rl_ HO373) (Kd.R_base ho0) hb); have n5_ := Aside0.mk (Kd.R_lower (Kd.R_new' (Kd.R_new' (Kd.R_new' (Kd.R_new' (Kd.R_new' ho0 (Kd.R_lt (rl_ HO349))) (Kd.R_lt (rl_ HO355))) (Kd.R_lt (rl_ HO366))) (Kd.R_lt (rl_ HO369))) (Kd.R_lt (rl_ HO373))) (below_size bel_)); have n6_ := Aside0.mk (bb_ BK359 hb); have n7_ := Aside0.mk (bb_ BK363 hb); have n8_ := Aside0.mk (below_step bel_ hb); clear HO349; clear HO355; clear HO366; clear HO369; clear HO373; clear BK359; clear BK363; clear HB; have HO349 := n0_; have HO355 := n1_; have HO366 := n2_; have HO369 := n3_; have HO373 := n4_; have HO376 := n5_; have BK359 := n6_; have BK363 := n7_; have HB := n8_; clear n0_ n1_ n2_ n3_ n4_ n5_ n6_ n7_ n8_; (try clear hb); (try clear hb2); (try clear hk); (try clear hi); (try clear ho0); obtain ⟨Ao59, co59, eo59⟩ := Kd.R_slice HO373.out; subst eo59; obtain ⟨Ao60, co60, eo60⟩ := Kd.R_slice HO376.out; subst eo60) | (go_at_call 32; (with_reducible refine (ropewayref10_Same.calls kj12 _ _ t371 _ _ t374 t377 _ ?side1 ?side2 ?side3 ?side4 A48.out).mono ?_); (case side1 => repeat (first | exact (Kd.R_reads' HO373.out).2.2 | (with_reducible refine Kd.C_alloc ?_ _) | (with_reducible refine Kd.C_drewN ?_ _) | (with_reducible refine Kd.C_drew ?_))); (case side2 => exact (Kd.R_reads' HO373.out).2.1); (case side3 => repeat (first | exact (Kd.R_reads' HO376.out).2.2 | (with_reducible refine Kd.C_alloc ?_ _) | (with_reducible refine Kd.C_drewN ?_ _) | (with_reducible refine Kd.C_drew ?_))); (case side4 => exact (Kd.R_reads' HO376.out).2.1); rintro e w' ⟨rfl, ⟨nd, rfl⟩⟩))
       go_meet
       case rel => exact ⟨_, (!t377), (by first | rfl | (simp; done) | (simp [*]; done) | (simp; grind)), H', ⟨by have := HJ3.out; have := HJ12.out; first | omega | exact Nat.le_refl _⟩, ⟨by (with_reducible repeat (first | apply Kd.R_alloc | apply Kd.R_drewN | apply Kd.R_drew)); exact Kd.R_mono HO349.out (fun _ hk => hk.1.1.1.1.2)⟩, ⟨by (with_reducible repeat (first | apply Kd.R_alloc | apply Kd.R_drewN | apply Kd.R_drew)); exact Kd.R_mono HO355.out (fun _ hk => hk.1.1.1.1)⟩, ⟨blf_⟩, ⟨blf_⟩, ⟨bel_⟩⟩
      case rest =>
       clear HC25
       try clear c1
       try clear c2
       try clear p2
       try clear c3
       try clear c4
       try clear c6
       try clear c9
       try clear c12
       try clear c15
       try clear c15b0
       try clear c15b1
       try clear c20
       try clear c21
       try clear c22
       try clear c25
       try clear c30
       try clear c34
       try clear c35
       try clear c38
       try clear c40
       try clear c40b0
       try clear c41
       try clear c41b0
       try clear c41b1
       try clear c41b2
       try clear c45
       try clear c49
       try clear hcz35_0
       try clear hcz35_1
       try clear hcz39_0
       try clear hcz39_1
       try clear hcz50_0
       try clear hcz50_1
       try clear hcz51_0
       try clear hcz51_1
       try clear hfz35_0
       try clear hfz35_1
       try clear hfz39_0
       try clear hfz39_1
       try clear hfz50_0
       try clear hfz50_1
       try clear hfz51_0
       try clear hfz51_1
       try clear p2
       obtain ⟨kq, x75_24, rfl, HA, HJ24, HO_7, HO_8, BK359, BK363, HB⟩ := hcut
       cases kq with
       | zero => exact absurd HA.out (by simp [ropewaylaw10_CellsTells.j2])
       | succ kj24 =>
        have H := HA.out
        clear HA
        simp only [ropewaylaw10_CellsTells.j2] at H
        by_cases c61 : x75_24 = true
        · subst c61
          have H1 : (some false) = some r := by rw [if_pos rfl] at H; exact H
          clear H
          have H := H1
          clear H1
          exact absurd (Option.some.inj H) (by rw [hr1_.out]; decide)
        replace c61 := Bool.eq_false_iff.mpr c61
        subst c61
        have H1 : ((cells_Changes.f kj24 y347).bind fun t378 => ((ropewayref10_Changes.f kj24 l0).bind fun t381 => ((ropewayref05_Same.f kj24 t378 t381).bind fun t384 => (if t384 = true then ((cells_Clash.f kj24 y347 y353).bind fun t385 => ((ropewayref10_Clash.f kj24 l0 l1).bind fun t386 => (if (t385 == t386) = true then ((ropewayref10_Same.f kj24 y347 l0).bind fun t387 => (if t387 = true then ((ropewayref10_Same.f kj24 y353 l1).bind fun t388 => (some t388)) else (some false))) else (some false)))) else (some false))))) = some r := by rw [if_neg (show ¬ (false = true) by decide)] at H; exact H
        clear H
        have H := H1
        clear H1
        replace H := Option.bind_eq_some_iff.mp H
        obtain ⟨t378, A620, H⟩ := H
        replace H : ((ropewayref10_Changes.f kj24 l0).bind fun t381 => ((ropewayref05_Same.f kj24 t378 t381).bind fun t384 => (if t384 = true then ((cells_Clash.f kj24 y347 y353).bind fun t385 => ((ropewayref10_Clash.f kj24 l0 l1).bind fun t386 => (if (t385 == t386) = true then ((ropewayref10_Same.f kj24 y347 l0).bind fun t387 => (if t387 = true then ((ropewayref10_Same.f kj24 y353 l1).bind fun t388 => (some t388)) else (some false))) else (some false)))) else (some false)))) = some r := H
        have A62 := Aside0.mk A620
        clear A620
        replace H := Option.bind_eq_some_iff.mp H
        obtain ⟨t381, A630, H⟩ := H
        replace H : ((ropewayref05_Same.f kj24 t378 t381).bind fun t384 => (if t384 = true then ((cells_Clash.f kj24 y347 y353).bind fun t385 => ((ropewayref10_Clash.f kj24 l0 l1).bind fun t386 => (if (t385 == t386) = true then ((ropewayref10_Same.f kj24 y347 l0).bind fun t387 => (if t387 = true then ((ropewayref10_Same.f kj24 y353 l1).bind fun t388 => (some t388)) else (some false))) else (some false)))) else (some false))) = some r := H
        have A63 := Aside0.mk A630
        clear A630
        replace H := Option.bind_eq_some_iff.mp H
        obtain ⟨t384, A640, H⟩ := H
        replace H : (if t384 = true then ((cells_Clash.f kj24 y347 y353).bind fun t385 => ((ropewayref10_Clash.f kj24 l0 l1).bind fun t386 => (if (t385 == t386) = true then ((ropewayref10_Same.f kj24 y347 l0).bind fun t387 => (if t387 = true then ((ropewayref10_Same.f kj24 y353 l1).bind fun t388 => (some t388)) else (some false))) else (some false)))) else (some false)) = some r := H
        have A64 := Aside0.mk A640
        clear A640
        by_cases c65 : t384 = true
        rotate_left
        · replace c65 := Bool.eq_false_iff.mpr c65
          subst c65
          have H1 : (some false) = some r := by rw [if_neg (show ¬ (false = true) by decide)] at H; exact H
          clear H
          have H := H1
          clear H1
          exact absurd (Option.some.inj H) (by rw [hr1_.out]; decide)
        subst c65
        have H1 : ((cells_Clash.f kj24 y347 y353).bind fun t385 => ((ropewayref10_Clash.f kj24 l0 l1).bind fun t386 => (if (t385 == t386) = true then ((ropewayref10_Same.f kj24 y347 l0).bind fun t387 => (if t387 = true then ((ropewayref10_Same.f kj24 y353 l1).bind fun t388 => (some t388)) else (some false))) else (some false)))) = some r := by rw [if_pos rfl] at H; exact H
        clear H
        have H := H1
        clear H1
        replace H := Option.bind_eq_some_iff.mp H
        obtain ⟨t385, A660, H⟩ := H
        replace H : ((ropewayref10_Clash.f kj24 l0 l1).bind fun t386 => (if (t385 == t386) = true then ((ropewayref10_Same.f kj24 y347 l0).bind fun t387 => (if t387 = true then ((ropewayref10_Same.f kj24 y353 l1).bind fun t388 => (some t388)) else (some false))) else (some false))) = some r := H
        have A66 := Aside0.mk A660
        clear A660
        replace H := Option.bind_eq_some_iff.mp H
        obtain ⟨t386, A670, H⟩ := H
        replace H : (if (t385 == t386) = true then ((ropewayref10_Same.f kj24 y347 l0).bind fun t387 => (if t387 = true then ((ropewayref10_Same.f kj24 y353 l1).bind fun t388 => (some t388)) else (some false))) else (some false)) = some r := H
        have A67 := Aside0.mk A670
        clear A670
        by_cases c68 : (t385 == t386) = true
        rotate_left
        · rw [if_neg c68] at H
          have c68b0 : (t385 == t386) = false := by simpa using c68
          (try (have c68b1 : decide (t385 = t386) = false := by simpa using c68))
          (try (have c68b2 : (t385 == t386) = false := by simpa using c68))
          (try (have c68b3 : ¬ (t385 = t386) := by simpa using c68))
          clear c68
          exact absurd (Option.some.inj H) (by rw [hr1_.out]; decide)
        rw [if_pos c68] at H
        have c68b0 : (t385 == t386) = true := c68
        (try (have c68b1 : decide (t385 = t386) = true := by simpa using c68))
        (try (have c68b2 : (t385 == t386) = true := by simpa using c68))
        clear c68
        replace H := Option.bind_eq_some_iff.mp H
        obtain ⟨t387, A690, H⟩ := H
        replace H : (if t387 = true then ((ropewayref10_Same.f kj24 y353 l1).bind fun t388 => (some t388)) else (some false)) = some r := H
        have A69 := Aside0.mk A690
        clear A690
        by_cases c70 : t387 = true
        rotate_left
        · replace c70 := Bool.eq_false_iff.mpr c70
          subst c70
          have H1 : (some false) = some r := by rw [if_neg (show ¬ (false = true) by decide)] at H; exact H
          clear H
          have H := H1
          clear H1
          exact absurd (Option.some.inj H) (by rw [hr1_.out]; decide)
        subst c70
        have H1 : ((ropewayref10_Same.f kj24 y353 l1).bind fun t388 => (some t388)) = some r := by rw [if_pos rfl] at H; exact H
        clear H
        have H := H1
        clear H1
        replace H := Option.bind_eq_some_iff.mp H
        obtain ⟨t388, A710, H⟩ := H
        replace H : (some t388) = some r := H
        have A71 := Aside0.mk A710
        clear A710
        obtain rfl := Option.some.inj H
        go_wp2_with (first | ((with_reducible refine gate_callee (f := 27) rfl ?_); refine goL_ (some 77) Try.func27 #[.slice Ao32 y347.length co32] ?_; (with_reducible refine (cells_Changes.calls kj24 _ _ y347 t378 _ ?side1 ?side2 A62.out).mono ?_); (case side1 => repeat (first | exact (Kd.R_reads' HO_7.out).2.2 | (with_reducible refine Kd.C_alloc ?_ _) | (with_reducible refine Kd.C_drewN ?_ _) | (with_reducible refine Kd.C_drew ?_))); (case side2 => exact (Kd.R_reads' HO_7.out).2.1); rintro e w72 ⟨v379, rfl, ho0, hb⟩; refine ⟨_, rfl, ?_⟩; have n0_ := Aside0.mk (Kd.R_below (rl_ HO_7) hb); have n1_ := Aside0.mk (Kd.R_below (rl_ HO_8) hb); have n2_ := Aside0.mk (Kd.R_lower (Kd.R_newB (Kd.R_newB ho0 (g := gb359) (o := .cells #[.int .i64 t356, .int .i64 t357] 25 (0, 0)) blk_) (g := gb363) (o := .cells #[.int .i64 t360, .int .i64 t361] 25 (0, 0)) blk_) (below_size bel_)); have n3_ := Aside0.mk (bb_ BK359 hb); have n4_ := Aside0.mk (bb_ BK363 hb); have n5_ := Aside0.mk (below_step bel_ hb); clear HO_7; clear HO_8; clear BK359; clear BK363; clear HB; have HO_7 := n0_; have HO_8 := n1_; have HO380 := n2_; have BK359 := n3_; have BK363 := n4_; have HB := n5_; clear n0_ n1_ n2_ n3_ n4_ n5_; (try clear hb); (try clear hb2); (try clear hk); (try clear hi); (try clear ho0)) | ((with_reducible refine gate_callee (f := 38) rfl ?_); refine goL_ (some 79) Try.func38 #[.slice A0 l0.length c0] ?_; (with_reducible refine (ropewayref10_Changes.calls kj24 _ _ l0 t381 _ ?side1 ?side2 A63.out).mono ?_); (case side1 => repeat (first | exact (Kd.C_below HR0.out HB.out) | (with_reducible refine Kd.C_alloc ?_ _) | (with_reducible refine Kd.C_drewN ?_ _) | (with_reducible refine Kd.C_drew ?_))); (case side2 => exact HC0.out); rintro e w73 ⟨v382, rfl, ho0, hb⟩; refine ⟨_, rfl, ?_⟩; have n0_ := Aside0.mk (Kd.R_below (rl_ HO_7) hb); have n1_ := Aside0.mk (Kd.R_below (rl_ HO_8) hb); have n2_ := Aside0.mk (Kd.R_elder' (rl_ HO380) (Kd.R_base ho0) hb); have n3_ := Aside0.mk (Kd.R_lower (Kd.R_newB (Kd.R_newB (Kd.R_new' ho0 (Kd.R_lt (rl_ HO380))) (g := gb359) (o := .cells #[.int .i64 t356, .int .i64 t357] 25 (0, 0)) blk_) (g := gb363) (o := .cells #[.int .i64 t360, .int .i64 t361] 25 (0, 0)) blk_) (below_size bel_)); have n4_ := Aside0.mk (bb_ BK359 hb); have n5_ := Aside0.mk (bb_ BK363 hb); have n6_ := Aside0.mk (below_step bel_ hb); clear HO_7; clear HO_8; clear HO380; clear BK359; clear BK363; clear HB; have HO_7 := n0_; have HO_8 := n1_; have HO380 := n2_; have HO383 := n3_; have BK359 := n4_; have BK363 := n5_; have HB := n6_; clear n0_ n1_ n2_ n3_ n4_ n5_ n6_; (try clear hb); (try clear hb2); (try clear hk); (try clear hi); (try clear ho0); obtain ⟨Ao74, co74, eo74⟩ := Kd.R_slice HO380.out; subst eo74; obtain ⟨Ao75, co75, eo75⟩ := Kd.R_slice HO383.out; subst eo75) | ((with_reducible refine gate_callee (f := 21) rfl ?_); refine goL_ (some 80) Try.func21 #[.slice Ao74 t378.length co74, .slice Ao75 t381.length co75] ?_; (with_reducible refine (ropewayref05_Same.calls kj24 _ _ t378 _ _ t381 true _ ?side1 ?side2 ?side3 ?side4 A64.out).mono ?_); (case side1 => repeat (first | exact (Kd.R_reads' HO380.out).2.2 | (with_reducible refine Kd.C_alloc ?_ _) | (with_reducible refine Kd.C_drewN ?_ _) | (with_reducible refine Kd.C_drew ?_))); (case side2 => exact (Kd.R_reads' HO380.out).2.1); (case side3 => repeat (first | exact (Kd.R_reads' HO383.out).2.2 | (with_reducible refine Kd.C_alloc ?_ _) | (with_reducible refine Kd.C_drewN ?_ _) | (with_reducible refine Kd.C_drew ?_))); (case side4 => exact (Kd.R_reads' HO383.out).2.1); rintro e w' ⟨rfl, ⟨nd, rfl⟩⟩; refine ⟨_, rfl, ?_⟩; obtain ⟨Ao76, co76, eo76⟩ := Kd.R_slice HO_8.out; subst eo76) | (go_at_call 33; (with_reducible refine (cells_Clash.calls kj24 _ _ y347 _ _ y353 t385 _ ?side1 ?side2 ?side3 ?side4 A66.out).mono ?_); (case side1 => repeat (first | exact (Kd.R_reads' HO_7.out).2.2 | (with_reducible refine Kd.C_alloc ?_ _) | (with_reducible refine Kd.C_drewN ?_ _) | (with_reducible refine Kd.C_drew ?_))); (case side2 => exact (Kd.R_reads' HO_7.out).2.1); (case side3 => repeat (first | exact (Kd.R_reads' HO_8.out).2.2 | (with_reducible refine Kd.C_alloc ?_ _) | (with_reducible refine Kd.C_drewN ?_ _) | (with_reducible refine Kd.C_drew ?_))); (case side4 => exact (Kd.R_reads' HO_8.out).2.1); rintro e w77 ⟨rfl, hb⟩; have n0_ := Aside0.mk (Kd.R_below (rl_ HO_7) hb); have n1_ := Aside0.mk (Kd.R_below (rl_ HO_8) hb); have n2_ := Aside0.mk (Kd.R_below (rl_ HO380) hb); have n3_ := Aside0.mk (Kd.R_below (rl_ HO383) hb); have n4_ := Aside0.mk (bb_ BK359 hb); have n5_ := Aside0.mk (bb_ BK363 hb); have n6_ := Aside0.mk (below_step bel_ hb); clear HO_7; clear HO_8; clear HO380; clear HO383; clear BK359; clear BK363; clear HB; have HO_7 := n0_; have HO_8 := n1_; have HO380 := n2_; have HO383 := n3_; have BK359 := n4_; have BK363 := n5_; have HB := n6_; clear n0_ n1_ n2_ n3_ n4_ n5_ n6_; (try clear hb); (try clear hb2); (try clear hk); (try clear hi)) | (go_at_call 39; (with_reducible refine (ropewayref10_Clash.calls kj24 _ _ l0 _ _ l1 t386 _ ?side1 ?side2 ?side3 ?side4 A67.out).mono ?_); (case side1 => repeat (first | exact (Kd.C_below HR0.out HB.out) | (with_reducible refine Kd.C_alloc ?_ _) | (with_reducible refine Kd.C_drewN ?_ _) | (with_reducible refine Kd.C_drew ?_))); (case side2 => exact HC0.out); (case side3 => repeat (first | exact (Kd.C_below HR1.out HB.out) | (with_reducible refine Kd.C_alloc ?_ _) | (with_reducible refine Kd.C_drewN ?_ _) | (with_reducible refine Kd.C_drew ?_))); (case side4 => exact HC1.out); rintro e w78 ⟨rfl, hb⟩; have n0_ := Aside0.mk (Kd.R_below (rl_ HO_7) hb); have n1_ := Aside0.mk (Kd.R_below (rl_ HO_8) hb); have n2_ := Aside0.mk (Kd.R_below (rl_ HO380) hb); have n3_ := Aside0.mk (Kd.R_below (rl_ HO383) hb); have n4_ := Aside0.mk (bb_ BK359 hb); have n5_ := Aside0.mk (bb_ BK363 hb); have n6_ := Aside0.mk (below_step bel_ hb); clear HO_7; clear HO_8; clear HO380; clear HO383; clear BK359; clear BK363; clear HB; have HO_7 := n0_; have HO_8 := n1_; have HO380 := n2_; have HO383 := n3_; have BK359 := n4_; have BK363 := n5_; have HB := n6_; clear n0_ n1_ n2_ n3_ n4_ n5_ n6_; (try clear hb); (try clear hb2); (try clear hk); (try clear hi)) | (go_at_call 32; (with_reducible refine (ropewayref10_Same.calls kj24 _ _ y347 _ _ l0 true _ ?side1 ?side2 ?side3 ?side4 A69.out).mono ?_); (case side1 => repeat (first | exact (Kd.R_reads' HO_7.out).2.2 | (with_reducible refine Kd.C_alloc ?_ _) | (with_reducible refine Kd.C_drewN ?_ _) | (with_reducible refine Kd.C_drew ?_))); (case side2 => exact (Kd.R_reads' HO_7.out).2.1); (case side3 => repeat (first | exact (Kd.C_below HR0.out HB.out) | (with_reducible refine Kd.C_alloc ?_ _) | (with_reducible refine Kd.C_drewN ?_ _) | (with_reducible refine Kd.C_drew ?_))); (case side4 => exact HC0.out); rintro e w' ⟨rfl, ⟨nd, rfl⟩⟩) | (go_at_call 32; (with_reducible refine (ropewayref10_Same.calls kj24 _ _ y353 _ _ l1 t388 _ ?side1 ?side2 ?side3 ?side4 A71.out).mono ?_); (case side1 => repeat (first | exact (Kd.R_reads' HO_8.out).2.2 | (with_reducible refine Kd.C_alloc ?_ _) | (with_reducible refine Kd.C_drewN ?_ _) | (with_reducible refine Kd.C_drew ?_))); (case side2 => exact (Kd.R_reads' HO_8.out).2.1); (case side3 => repeat (first | exact (Kd.C_below HR1.out bel_) | (with_reducible refine Kd.C_alloc ?_ _) | (with_reducible refine Kd.C_drewN ?_ _) | (with_reducible refine Kd.C_drew ?_))); (case side4 => exact HC1.out); rintro e w' ⟨rfl, ⟨nd, rfl⟩⟩))
        go_ret
        exact ⟨by first | rfl | (simp [errW_none, errW_some] <;> rfl) | (simp [*, errW_none, errW_some] <;> rfl), bel_⟩
/-- THE ONE PURE STATEMENT of ropewaylaw10_CellsTells. -/
def ropewaylaw10_CellsTells.Pure : Prop := ∀ (l0 : List (S41)) (l1 : List (S41)) (a2 : Int), (l0.length ≤ maxLen ∧ l0.length * 24 ≤ 140737488351232 ∧ ∀ y0 ∈ l0, ((Lit.int .i64 y0.f0).wf = true ∧ ((Lit.int .i64 y0.f1.f0).wf = true ∧ (Lit.int .i64 y0.f1.f1).wf = true))) → (l1.length ≤ maxLen ∧ l1.length * 24 ≤ 140737488351232 ∧ ∀ y0 ∈ l1, ((Lit.int .i64 y0.f0).wf = true ∧ ((Lit.int .i64 y0.f1.f0).wf = true ∧ (Lit.int .i64 y0.f1.f1).wf = true))) → (Lit.int .i64 a2).wf = true → ∃ k, ropewaylaw10_CellsTells.f k l0 l1 a2 = some true

end Go.Proofs.Ytophohbodmnpjaa.PCellsTells
