/- Written by a program of this session (wip/tool/px.py) over the kit's print: what the code that the law ChangeJoins reaches computes, function by function, and the law's row. -/
import Derived.Test.YtbnhgckdplndfaaPChangeJoinsx0
namespace Go.Proofs.Ytbnhgckdplndfaa.PChangeJoins
open Go.RowKit Go.Proofs.YtbnhgckdplndfaaX Go.Proofs.YtbnhgckdplndfaaW.PrintWords Go.Proofs.YtbnhgckdplndfaaW.PrintLast Go.Proofs.YtbnhgckdplndfaaW.PrintMore
attribute [local go_sem] max2_int min2_int max_two min_two max_three min_three max_four min_four   -- for this text's walks alone
set_option linter.unusedVariables false
set_option linter.unusedSimpArgs false

/-! ### ropewayref04_set: function 44 -/
def ropewayref04_set.l0 : Nat → Int → Int → Bool → Bool → Bool → Bool → Bool → Bool → Bool → Bool → Bool → Bool → Bool → Bool → Int → Int → Option (Int × Int)
  | 0, _, _, _, _, _, _, _, _, _, _, _, _, _, _, _, _ => none
  | k + 1, x6, x7, x140000, x140001, x140002, x140003, x140004, x140005, x141000, x141001, x141002, x141003, x141004, x141005, x143000, x143001 => if x7 < 6 then (if 0 ≤ x7 then (if rdOf false [x140000, x140001, x140002, x140003, x140004, x140005] x7 = true then (if rdOf false [x141000, x141001, x141002, x141003, x141004, x141005] x7 = true then (ropewayref04_set.l0 k (wrap64 (2 * x6)) (wrap64 (x7 + 1)) x140000 x140001 x140002 x140003 x140004 x140005 x141000 x141001 x141002 x141003 x141004 x141005 (wrap64 (x143000 + x6)) (wrap64 (x143001 + x6))) else (ropewayref04_set.l0 k (wrap64 (2 * x6)) (wrap64 (x7 + 1)) x140000 x140001 x140002 x140003 x140004 x140005 x141000 x141001 x141002 x141003 x141004 x141005 (wrap64 (x143000 + x6)) x143001)) else (if rdOf false [x141000, x141001, x141002, x141003, x141004, x141005] x7 = true then (ropewayref04_set.l0 k (wrap64 (2 * x6)) (wrap64 (x7 + 1)) x140000 x140001 x140002 x140003 x140004 x140005 x141000 x141001 x141002 x141003 x141004 x141005 x143000 (wrap64 (x143001 + x6))) else (ropewayref04_set.l0 k (wrap64 (2 * x6)) (wrap64 (x7 + 1)) x140000 x140001 x140002 x140003 x140004 x140005 x141000 x141001 x141002 x141003 x141004 x141005 x143000 x143001))) else (none)) else (some (x143000, x143001))
def ropewayref04_set.f (k : Nat) (a0_0 : Bool) (a0_1 : Bool) (a0_2 : Bool) (a0_3 : Bool) (a0_4 : Bool) (a0_5 : Bool) (a1_0 : Bool) (a1_1 : Bool) (a1_2 : Bool) (a1_3 : Bool) (a1_4 : Bool) (a1_5 : Bool) : Option (Int × Int) := ropewayref04_set.l0 k 1 0 a0_0 a0_1 a0_2 a0_3 a0_4 a0_5 a1_0 a1_1 a1_2 a1_3 a1_4 a1_5 0 0
theorem ropewayref04_set.mono_l : ∀ k, (∀ y0 y1 y2 y3 y4 y5 y6 y7 y8 y9 y10 y11 y12 y13 y14 y15, LeO (ropewayref04_set.l0 k y0 y1 y2 y3 y4 y5 y6 y7 y8 y9 y10 y11 y12 y13 y14 y15) (ropewayref04_set.l0 (k + 1) y0 y1 y2 y3 y4 y5 y6 y7 y8 y9 y10 y11 y12 y13 y14 y15))
  | 0 => fun _ _ _ _ _ _ _ _ _ _ _ _ _ _ _ _ r h => by simp [ropewayref04_set.l0] at h
  | k + 1 => by
    have ih0 := ropewayref04_set.mono_l k
    · intro y0 y1 y2 y3 y4 y5 y6 y7 y8 y9 y10 y11 y12 y13 y14 y15
      unfold ropewayref04_set.l0
      repeat' first
      | (with_reducible exact ih0 _ _ _ _ _ _ _ _ _ _ _ _ _ _ _ _)
      | (with_reducible exact LeO.refl _)
      | (with_reducible exact LeO.none _)
      | (with_reducible refine LeO.ite ?_ ?_)
      | (with_reducible refine LeO.bind ?_ (fun _ => ?_))
      | exact ih0 _ _ _ _ _ _ _ _ _ _ _ _ _ _ _ _
      | exact LeO.none _
      | refine LeO.ite ?_ ?_
      | refine LeO.bind ?_ (fun _ => ?_)
theorem ropewayref04_set.mono : ∀ a0 a1 a2 a3 a4 a5 a6 a7 a8 a9 a10 a11 k, LeO (ropewayref04_set.f k a0 a1 a2 a3 a4 a5 a6 a7 a8 a9 a10 a11) (ropewayref04_set.f (k + 1) a0 a1 a2 a3 a4 a5 a6 a7 a8 a9 a10 a11) := by
  intro a0 a1 a2 a3 a4 a5 a6 a7 a8 a9 a10 a11 k
  have ih0 := ropewayref04_set.mono_l k
  unfold ropewayref04_set.f
  repeat' first
      | (with_reducible exact ih0 _ _ _ _ _ _ _ _ _ _ _ _ _ _ _ _)
      | (with_reducible exact LeO.refl _)
      | (with_reducible exact LeO.none _)
      | (with_reducible refine LeO.ite ?_ ?_)
      | (with_reducible refine LeO.bind ?_ (fun _ => ?_))
      | exact ih0 _ _ _ _ _ _ _ _ _ _ _ _ _ _ _ _
      | exact LeO.none _
      | refine LeO.ite ?_ ?_
      | refine LeO.bind ?_ (fun _ => ?_)
set_option maxHeartbeats 8000000 in
set_option maxRecDepth 100000 in
theorem ropewayref04_set.calls (k : Nat) (a0_0 : Bool) (a0_1 : Bool) (a0_2 : Bool) (a0_3 : Bool) (a0_4 : Bool) (a0_5 : Bool) (a1_0 : Bool) (a1_1 : Bool) (a1_2 : Bool) (a1_3 : Bool) (a1_4 : Bool) (a1_5 : Bool) (r1 : Int) (r2 : Int) (w : World) (h : ropewayref04_set.f k a0_0 a0_1 a0_2 a0_3 a0_4 a0_5 a1_0 a1_1 a1_2 a1_3 a1_4 a1_5 = some (r1, r2)) :
    Calls Try.prog 44 #[.agg #[.bool a0_0, .bool a0_1, .bool a0_2, .bool a0_3, .bool a0_4, .bool a0_5], .agg #[.bool a1_0, .bool a1_1, .bool a1_2, .bool a1_3, .bool a1_4, .bool a1_5]] w fun e w' => e = .returned (.agg #[.int .i64 r1, .int .i64 r2]) ∧ Below w.heap.size w w' := by
  have hu41 := Try.underlying41
  have hu38 := Try.underlying38
  have HB := Aside0.mk (Below.refl w.heap.size w)
  have H : (ropewayref04_set.l0 k 1 0 a0_0 a0_1 a0_2 a0_3 a0_4 a0_5 a1_0 a1_1 a1_2 a1_3 a1_4 a1_5 0 0) = some (r1, r2) := h
  clear h
  have H' := Aside0.mk H
  clear H
  go_enter Try.func44, Try.ntmps44
  go_wp2_with (first | ((with_reducible refine gate_dst (N := 2) rfl ?_); refine box_event ?hg (N := 2) ?hd (cs := #[.bool a0_0, .bool a0_1, .bool a0_2, .bool a0_3, .bool a0_4, .bool a0_5]) (t := 41) ?hr ?_; (case hd => rfl); (case hg => rfl); (case hr => first | (go_simp; done) | (go_simp; rfl)); intro gb139 hg w3 hbox hb; have n0_ := Aside0.mk (below_step (by repeat (first | (with_reducible first | exact HB.out | apply below_alloc | apply pw_below_drewN | apply below_drew1) | exact HB.out)) hb); have n1_ := Aside0.mk (hbox); have n2_ := Aside0.mk ((by rw [hg]; exact (below_size (by repeat (first | (with_reducible first | exact HB.out | apply below_alloc | apply pw_below_drewN | apply below_drew1) | exact HB.out))) : w.heap.size ≤ gb139)); have n3_ := Aside0.mk ((by rw [hg]; exact (below_size (by repeat (first | (with_reducible first | exact HB.out | apply below_alloc | apply pw_below_drewN | apply below_drew1) | exact HB.out))) : w.heap.size ≤ gb139)); clear HB; have HB := n0_; have BK139 := n1_; have GW139 := n2_; have GE139 := n3_; clear n0_ n1_ n2_ n3_; clear hb hbox hg) | ((with_reducible refine gate_dst (N := 3) rfl ?_); refine box_event ?hg (N := 3) ?hd (cs := #[.bool a1_0, .bool a1_1, .bool a1_2, .bool a1_3, .bool a1_4, .bool a1_5]) (t := 41) ?hr ?_; (case hd => rfl); (case hg => rfl); (case hr => first | (go_simp; done) | (go_simp; rfl)); intro gb140 hg w4 hbox hb; have n0_ := Aside0.mk (blk_below (g := gb139) (o := .cells #[.bool a0_0, .bool a0_1, .bool a0_2, .bool a0_3, .bool a0_4, .bool a0_5] 41 (0, 0)) (by (with_reducible repeat (first | refine blk_drewN ?_ _ | refine blk_drew ?_ | refine blk_alloc ?_ _)); exact BK139.out) hb); have n1_ := Aside0.mk (below_step (by repeat (first | (with_reducible first | exact HB.out | apply below_alloc | apply pw_below_drewN | apply below_drew1 | refine below_set ?_ GE139.out) | exact HB.out)) hb); have n2_ := Aside0.mk (hbox); have n3_ := Aside0.mk ((by rw [hg]; exact (below_size (by repeat (first | (with_reducible first | exact HB.out | apply below_alloc | apply pw_below_drewN | apply below_drew1 | refine below_set ?_ GE139.out) | exact HB.out))) : w.heap.size ≤ gb140)); have n4_ := Aside0.mk ((by rw [hg]; exact (below_size (by repeat (first | (with_reducible first | exact HB.out | apply below_alloc | apply pw_below_drewN | apply below_drew1 | refine below_set ?_ GE139.out) | exact HB.out))) : w.heap.size ≤ gb140)); have n5_ := Aside0.mk ((by rw [hg]; exact Nat.ne_of_lt (blk_lt (g := gb139) (o := .cells #[.bool a0_0, .bool a0_1, .bool a0_2, .bool a0_3, .bool a0_4, .bool a0_5] 41 (0, 0)) (by (with_reducible repeat (first | refine blk_drewN ?_ _ | refine blk_drew ?_ | refine blk_alloc ?_ _)); exact BK139.out)) : gb139 ≠ gb140)); have n6_ := Aside0.mk ((by rw [hg]; exact Nat.ne_of_gt (blk_lt (g := gb139) (o := .cells #[.bool a0_0, .bool a0_1, .bool a0_2, .bool a0_3, .bool a0_4, .bool a0_5] 41 (0, 0)) (by (with_reducible repeat (first | refine blk_drewN ?_ _ | refine blk_drew ?_ | refine blk_alloc ?_ _)); exact BK139.out)) : gb140 ≠ gb139)); clear BK139; clear HB; have BK139 := n0_; have HB := n1_; have BK140 := n2_; have GW140 := n3_; have GE140 := n4_; have NB139_140 := n5_; have NB140_139 := n6_; clear n0_ n1_ n2_ n3_ n4_ n5_ n6_; clear hb hbox hg) | ((with_reducible refine gate_dst (N := 4) rfl ?_); refine box_event ?hg (N := 4) ?hd (cs := #[.int .i64 0, .int .i64 0]) (t := 38) ?hr ?_; (case hd => rfl); (case hg => rfl); (case hr => first | (go_simp; done) | (go_simp; rfl)); intro gb141 hg w5 hbox hb; have n0_ := Aside0.mk (blk_below (g := gb139) (o := .cells #[.bool a0_0, .bool a0_1, .bool a0_2, .bool a0_3, .bool a0_4, .bool a0_5] 41 (0, 0)) (by (with_reducible repeat (first | refine blk_drewN ?_ _ | refine blk_drew ?_ | refine blk_alloc ?_ _)); exact BK139.out) hb); have n1_ := Aside0.mk (blk_below (g := gb140) (o := .cells #[.bool a1_0, .bool a1_1, .bool a1_2, .bool a1_3, .bool a1_4, .bool a1_5] 41 (0, 0)) (by (with_reducible repeat (first | refine blk_drewN ?_ _ | refine blk_drew ?_ | refine blk_alloc ?_ _)); exact BK140.out) hb); have n2_ := Aside0.mk (below_step (by repeat (first | (with_reducible first | exact HB.out | apply below_alloc | apply pw_below_drewN | apply below_drew1 | refine below_set ?_ GE139.out | refine below_set ?_ GE140.out) | exact HB.out)) hb); have n3_ := Aside0.mk (hbox); have n4_ := Aside0.mk ((by rw [hg]; exact (below_size (by repeat (first | (with_reducible first | exact HB.out | apply below_alloc | apply pw_below_drewN | apply below_drew1 | refine below_set ?_ GE139.out | refine below_set ?_ GE140.out) | exact HB.out))) : w.heap.size ≤ gb141)); have n5_ := Aside0.mk ((by rw [hg]; exact (below_size (by repeat (first | (with_reducible first | exact HB.out | apply below_alloc | apply pw_below_drewN | apply below_drew1 | refine below_set ?_ GE139.out | refine below_set ?_ GE140.out) | exact HB.out))) : w.heap.size ≤ gb141)); have n6_ := Aside0.mk ((by rw [hg]; exact Nat.ne_of_lt (blk_lt (g := gb139) (o := .cells #[.bool a0_0, .bool a0_1, .bool a0_2, .bool a0_3, .bool a0_4, .bool a0_5] 41 (0, 0)) (by (with_reducible repeat (first | refine blk_drewN ?_ _ | refine blk_drew ?_ | refine blk_alloc ?_ _)); exact BK139.out)) : gb139 ≠ gb141)); have n7_ := Aside0.mk ((by rw [hg]; exact Nat.ne_of_gt (blk_lt (g := gb139) (o := .cells #[.bool a0_0, .bool a0_1, .bool a0_2, .bool a0_3, .bool a0_4, .bool a0_5] 41 (0, 0)) (by (with_reducible repeat (first | refine blk_drewN ?_ _ | refine blk_drew ?_ | refine blk_alloc ?_ _)); exact BK139.out)) : gb141 ≠ gb139)); have n8_ := Aside0.mk ((by rw [hg]; exact Nat.ne_of_lt (blk_lt (g := gb140) (o := .cells #[.bool a1_0, .bool a1_1, .bool a1_2, .bool a1_3, .bool a1_4, .bool a1_5] 41 (0, 0)) (by (with_reducible repeat (first | refine blk_drewN ?_ _ | refine blk_drew ?_ | refine blk_alloc ?_ _)); exact BK140.out)) : gb140 ≠ gb141)); have n9_ := Aside0.mk ((by rw [hg]; exact Nat.ne_of_gt (blk_lt (g := gb140) (o := .cells #[.bool a1_0, .bool a1_1, .bool a1_2, .bool a1_3, .bool a1_4, .bool a1_5] 41 (0, 0)) (by (with_reducible repeat (first | refine blk_drewN ?_ _ | refine blk_drew ?_ | refine blk_alloc ?_ _)); exact BK140.out)) : gb141 ≠ gb140)); clear BK139; clear BK140; clear HB; have BK139 := n0_; have BK140 := n1_; have HB := n2_; have BK141 := n3_; have GW141 := n4_; have GE141 := n5_; have NB139_141 := n6_; have NB141_139 := n7_; have NB140_141 := n8_; have NB141_140 := n9_; clear n0_ n1_ n2_ n3_ n4_ n5_ n6_ n7_ n8_ n9_; clear hb hbox hg) | ((with_reducible refine gate_dst (N := 5) rfl ?_); refine box_event ?hg (N := 5) ?hd (cs := #[.int .i64 0, .int .i64 0]) (t := 38) ?hr ?_; (case hd => rfl); (case hg => rfl); (case hr => first | (go_simp; done) | (go_simp; rfl)); intro gb142 hg w6 hbox hb; have n0_ := Aside0.mk (blk_below (g := gb139) (o := .cells #[.bool a0_0, .bool a0_1, .bool a0_2, .bool a0_3, .bool a0_4, .bool a0_5] 41 (0, 0)) (by (with_reducible repeat (first | refine blk_drewN ?_ _ | refine blk_drew ?_ | refine blk_alloc ?_ _)); exact BK139.out) hb); have n1_ := Aside0.mk (blk_below (g := gb140) (o := .cells #[.bool a1_0, .bool a1_1, .bool a1_2, .bool a1_3, .bool a1_4, .bool a1_5] 41 (0, 0)) (by (with_reducible repeat (first | refine blk_drewN ?_ _ | refine blk_drew ?_ | refine blk_alloc ?_ _)); exact BK140.out) hb); have n2_ := Aside0.mk (blk_below (g := gb141) (o := .cells #[.int .i64 0, .int .i64 0] 38 (0, 0)) (by (with_reducible repeat (first | refine blk_drewN ?_ _ | refine blk_drew ?_ | refine blk_alloc ?_ _)); exact BK141.out) hb); have n3_ := Aside0.mk (below_step (by repeat (first | (with_reducible first | exact HB.out | apply below_alloc | apply pw_below_drewN | apply below_drew1 | refine below_set ?_ GE139.out | refine below_set ?_ GE140.out | refine below_set ?_ GE141.out) | exact HB.out)) hb); have n4_ := Aside0.mk (hbox); have n5_ := Aside0.mk ((by rw [hg]; exact (below_size (by repeat (first | (with_reducible first | exact HB.out | apply below_alloc | apply pw_below_drewN | apply below_drew1 | refine below_set ?_ GE139.out | refine below_set ?_ GE140.out | refine below_set ?_ GE141.out) | exact HB.out))) : w.heap.size ≤ gb142)); have n6_ := Aside0.mk ((by rw [hg]; exact (below_size (by repeat (first | (with_reducible first | exact HB.out | apply below_alloc | apply pw_below_drewN | apply below_drew1 | refine below_set ?_ GE139.out | refine below_set ?_ GE140.out | refine below_set ?_ GE141.out) | exact HB.out))) : w.heap.size ≤ gb142)); have n7_ := Aside0.mk ((by rw [hg]; exact Nat.ne_of_lt (blk_lt (g := gb139) (o := .cells #[.bool a0_0, .bool a0_1, .bool a0_2, .bool a0_3, .bool a0_4, .bool a0_5] 41 (0, 0)) (by (with_reducible repeat (first | refine blk_drewN ?_ _ | refine blk_drew ?_ | refine blk_alloc ?_ _)); exact BK139.out)) : gb139 ≠ gb142)); have n8_ := Aside0.mk ((by rw [hg]; exact Nat.ne_of_gt (blk_lt (g := gb139) (o := .cells #[.bool a0_0, .bool a0_1, .bool a0_2, .bool a0_3, .bool a0_4, .bool a0_5] 41 (0, 0)) (by (with_reducible repeat (first | refine blk_drewN ?_ _ | refine blk_drew ?_ | refine blk_alloc ?_ _)); exact BK139.out)) : gb142 ≠ gb139)); have n9_ := Aside0.mk ((by rw [hg]; exact Nat.ne_of_lt (blk_lt (g := gb140) (o := .cells #[.bool a1_0, .bool a1_1, .bool a1_2, .bool a1_3, .bool a1_4, .bool a1_5] 41 (0, 0)) (by (with_reducible repeat (first | refine blk_drewN ?_ _ | refine blk_drew ?_ | refine blk_alloc ?_ _)); exact BK140.out)) : gb140 ≠ gb142)); have n10_ := Aside0.mk ((by rw [hg]; exact Nat.ne_of_gt (blk_lt (g := gb140) (o := .cells #[.bool a1_0, .bool a1_1, .bool a1_2, .bool a1_3, .bool a1_4, .bool a1_5] 41 (0, 0)) (by (with_reducible repeat (first | refine blk_drewN ?_ _ | refine blk_drew ?_ | refine blk_alloc ?_ _)); exact BK140.out)) : gb142 ≠ gb140)); have n11_ := Aside0.mk ((by rw [hg]; exact Nat.ne_of_lt (blk_lt (g := gb141) (o := .cells #[.int .i64 0, .int .i64 0] 38 (0, 0)) (by (with_reducible repeat (first | refine blk_drewN ?_ _ | refine blk_drew ?_ | refine blk_alloc ?_ _)); exact BK141.out)) : gb141 ≠ gb142)); have n12_ := Aside0.mk ((by rw [hg]; exact Nat.ne_of_gt (blk_lt (g := gb141) (o := .cells #[.int .i64 0, .int .i64 0] 38 (0, 0)) (by (with_reducible repeat (first | refine blk_drewN ?_ _ | refine blk_drew ?_ | refine blk_alloc ?_ _)); exact BK141.out)) : gb142 ≠ gb141)); clear BK139; clear BK140; clear BK141; clear HB; have BK139 := n0_; have BK140 := n1_; have BK141 := n2_; have HB := n3_; have BK142 := n4_; have GW142 := n5_; have GE142 := n6_; have NB139_142 := n7_; have NB142_139 := n8_; have NB140_142 := n9_; have NB142_140 := n10_; have NB141_142 := n11_; have NB142_141 := n12_; clear n0_ n1_ n2_ n3_ n4_ n5_ n6_ n7_ n8_ n9_ n10_ n11_ n12_; clear hb hbox hg; have hnb7 := NB142_139.out; have hnc7 := NB139_142.out; have hnb8 := NB142_140.out; have hnc8 := NB140_142.out; have hnb9 := NB142_141.out; have hnc9 := NB141_142.out; have hcz10_0 : w6.cell? ⟨gb142, 0, none⟩ = some (.int .i64 0) := (blk_cell BK142.out 0).trans rfl; have hcz10_1 : w6.cell? ⟨gb142, 1, none⟩ = some (.int .i64 0) := (blk_cell BK142.out 1).trans rfl; have hfz10_0 := blk_frozen BK142.out 0; have hfz10_1 := blk_frozen BK142.out 1))
  go_loopg [6, 7] k (fun kq v6 v7 w' => ∃ (x6_1 : Int) (x7_1 : Int) (x143000_1 : Int) (x143001_1 : Int), v6 = .int .i64 x6_1 ∧ v7 = .int .i64 x7_1 ∧ Aside0 (ropewayref04_set.l0 kq x6_1 x7_1 a0_0 a0_1 a0_2 a0_3 a0_4 a0_5 a1_0 a1_1 a1_2 a1_3 a1_4 a1_5 x143000_1 x143001_1 = some (r1, r2)) ∧ Aside0 (kq ≤ k) ∧ Aside0 (w'.heap[gb139]? = some (.cells #[.bool a0_0, .bool a0_1, .bool a0_2, .bool a0_3, .bool a0_4, .bool a0_5] 41 (0, 0))) ∧ Aside0 (w'.heap[gb140]? = some (.cells #[.bool a1_0, .bool a1_1, .bool a1_2, .bool a1_3, .bool a1_4, .bool a1_5] 41 (0, 0))) ∧ Aside0 (w'.heap[gb141]? = some (.cells #[.int .i64 0, .int .i64 0] 38 (0, 0))) ∧ Aside0 (w'.heap[gb142]? = some (.cells #[.int .i64 x143000_1, .int .i64 x143001_1] 38 (0, 0))) ∧ Aside0 (Below w.heap.size w w'))
  case atStart => exact ⟨(1), (0), (0), (0), (by first | rfl | (simp; done) | (simp [*]; done) | (simp; grind)), (by first | rfl | (simp; done) | (simp [*]; done) | (simp; grind)), H', ⟨Nat.le_refl _⟩, ⟨by (with_reducible repeat (first | refine blk_drewN ?_ _ | refine blk_drew ?_ | refine blk_alloc ?_ _)); refine blk_far ?_ NB139_142.out _; (with_reducible repeat (first | refine blk_drewN ?_ _ | refine blk_drew ?_ | refine blk_alloc ?_ _)); refine blk_far ?_ NB139_142.out _; (with_reducible repeat (first | refine blk_drewN ?_ _ | refine blk_drew ?_ | refine blk_alloc ?_ _)); exact BK139.out⟩, ⟨by (with_reducible repeat (first | refine blk_drewN ?_ _ | refine blk_drew ?_ | refine blk_alloc ?_ _)); refine blk_far ?_ NB140_142.out _; (with_reducible repeat (first | refine blk_drewN ?_ _ | refine blk_drew ?_ | refine blk_alloc ?_ _)); refine blk_far ?_ NB140_142.out _; (with_reducible repeat (first | refine blk_drewN ?_ _ | refine blk_drew ?_ | refine blk_alloc ?_ _)); exact BK140.out⟩, ⟨by (with_reducible repeat (first | refine blk_drewN ?_ _ | refine blk_drew ?_ | refine blk_alloc ?_ _)); refine blk_far ?_ NB141_142.out _; (with_reducible repeat (first | refine blk_drewN ?_ _ | refine blk_drew ?_ | refine blk_alloc ?_ _)); refine blk_far ?_ NB141_142.out _; (with_reducible repeat (first | refine blk_drewN ?_ _ | refine blk_drew ?_ | refine blk_alloc ?_ _)); exact BK141.out⟩, ⟨by (with_reducible repeat (first | refine blk_drewN ?_ _ | refine blk_drew ?_ | refine blk_alloc ?_ _)); refine blk_put (cs := #[.int .i64 0, .int .i64 0]) ?_ 1 _ rfl; (with_reducible repeat (first | refine blk_drewN ?_ _ | refine blk_drew ?_ | refine blk_alloc ?_ _)); refine blk_put (cs := #[.int .i64 0, .int .i64 0]) ?_ 0 _ rfl; (with_reducible repeat (first | refine blk_drewN ?_ _ | refine blk_drew ?_ | refine blk_alloc ?_ _)); exact BK142.out⟩, ⟨by repeat (first | (with_reducible first | exact HB.out | apply below_alloc | apply pw_below_drewN | apply below_drew1 | refine below_set ?_ GE139.out | refine below_set ?_ GE140.out | refine below_set ?_ GE141.out | refine below_set ?_ GE142.out) | exact HB.out)⟩⟩
  case round =>
    clear H'
    try clear p2
    try clear c4
    try clear c7
    try clear c8
    try clear c9
    try clear hcz10_0
    try clear hcz10_1
    try clear hfz10_0
    try clear hfz10_1
    obtain ⟨x6_1, x7_1, x143000_1, x143001_1, rfl, rfl, HA, HK1, BK139, BK140, BK141, BK142, HB⟩ := hrel
    cases gk with
    | zero => exact absurd HA.out (by simp [ropewayref04_set.l0])
    | succ k1 =>
      have H := HA.out
      clear HA
      simp only [ropewayref04_set.l0] at H
      by_cases c11 : x7_1 < 6
      · rw [if_pos c11] at H
        have c11b0 : decide (x7_1 < 6) = true := decide_eq_true c11
        clear c11
        by_cases c12 : 0 ≤ x7_1
        · rw [if_pos c12] at H
          have c12b0 : decide (0 ≤ x7_1) = true := decide_eq_true c12
          clear c12
          obtain ⟨bq13, hbq13⟩ : ∃ b_ : Bool, b_ = (rdOf false [a0_0, a0_1, a0_2, a0_3, a0_4, a0_5] x7_1) := ⟨_, rfl⟩
          replace H : (if bq13 = true then (if rdOf false [a1_0, a1_1, a1_2, a1_3, a1_4, a1_5] x7_1 = true then (ropewayref04_set.l0 k1 (wrap64 (2 * x6_1)) (wrap64 (x7_1 + 1)) a0_0 a0_1 a0_2 a0_3 a0_4 a0_5 a1_0 a1_1 a1_2 a1_3 a1_4 a1_5 (wrap64 (x143000_1 + x6_1)) (wrap64 (x143001_1 + x6_1))) else (ropewayref04_set.l0 k1 (wrap64 (2 * x6_1)) (wrap64 (x7_1 + 1)) a0_0 a0_1 a0_2 a0_3 a0_4 a0_5 a1_0 a1_1 a1_2 a1_3 a1_4 a1_5 (wrap64 (x143000_1 + x6_1)) x143001_1)) else (if rdOf false [a1_0, a1_1, a1_2, a1_3, a1_4, a1_5] x7_1 = true then (ropewayref04_set.l0 k1 (wrap64 (2 * x6_1)) (wrap64 (x7_1 + 1)) a0_0 a0_1 a0_2 a0_3 a0_4 a0_5 a1_0 a1_1 a1_2 a1_3 a1_4 a1_5 x143000_1 (wrap64 (x143001_1 + x6_1))) else (ropewayref04_set.l0 k1 (wrap64 (2 * x6_1)) (wrap64 (x7_1 + 1)) a0_0 a0_1 a0_2 a0_3 a0_4 a0_5 a1_0 a1_1 a1_2 a1_3 a1_4 a1_5 x143000_1 x143001_1))) = some (r1, r2) := by rw [← hbq13] at H; exact H
          have Nbq13 := Aside0.mk hbq13
          clear hbq13
          by_cases c14 : bq13 = true
          · subst c14
            have H1 : (if rdOf false [a1_0, a1_1, a1_2, a1_3, a1_4, a1_5] x7_1 = true then (ropewayref04_set.l0 k1 (wrap64 (2 * x6_1)) (wrap64 (x7_1 + 1)) a0_0 a0_1 a0_2 a0_3 a0_4 a0_5 a1_0 a1_1 a1_2 a1_3 a1_4 a1_5 (wrap64 (x143000_1 + x6_1)) (wrap64 (x143001_1 + x6_1))) else (ropewayref04_set.l0 k1 (wrap64 (2 * x6_1)) (wrap64 (x7_1 + 1)) a0_0 a0_1 a0_2 a0_3 a0_4 a0_5 a1_0 a1_1 a1_2 a1_3 a1_4 a1_5 (wrap64 (x143000_1 + x6_1)) x143001_1)) = some (r1, r2) := by rw [if_pos rfl] at H; exact H
            clear H
            have H := H1
            clear H1
            obtain ⟨bq15, hbq15⟩ : ∃ b_ : Bool, b_ = (rdOf false [a1_0, a1_1, a1_2, a1_3, a1_4, a1_5] x7_1) := ⟨_, rfl⟩
            replace H : (if bq15 = true then (ropewayref04_set.l0 k1 (wrap64 (2 * x6_1)) (wrap64 (x7_1 + 1)) a0_0 a0_1 a0_2 a0_3 a0_4 a0_5 a1_0 a1_1 a1_2 a1_3 a1_4 a1_5 (wrap64 (x143000_1 + x6_1)) (wrap64 (x143001_1 + x6_1))) else (ropewayref04_set.l0 k1 (wrap64 (2 * x6_1)) (wrap64 (x7_1 + 1)) a0_0 a0_1 a0_2 a0_3 a0_4 a0_5 a1_0 a1_1 a1_2 a1_3 a1_4 a1_5 (wrap64 (x143000_1 + x6_1)) x143001_1)) = some (r1, r2) := by rw [← hbq15] at H; exact H
            have Nbq15 := Aside0.mk hbq15
            clear hbq15
            by_cases c16 : bq15 = true
            · subst c16
              have H1 : (ropewayref04_set.l0 k1 (wrap64 (2 * x6_1)) (wrap64 (x7_1 + 1)) a0_0 a0_1 a0_2 a0_3 a0_4 a0_5 a1_0 a1_1 a1_2 a1_3 a1_4 a1_5 (wrap64 (x143000_1 + x6_1)) (wrap64 (x143001_1 + x6_1))) = some (r1, r2) := by rw [if_pos rfl] at H; exact H
              clear H
              have H := H1
              clear H1
              have H' := Aside0.mk H
              clear H
              have hnb17 := NB139_140.out
              have hnc17 := NB140_139.out
              have hnb18 := NB139_141.out
              have hnc18 := NB141_139.out
              have hnb19 := NB139_142.out
              have hnc19 := NB142_139.out
              have pdz20 : 0 ≤ (x7_1 : Int) := (of_decide_eq_true (by first | (with_reducible assumption) | assumption))
              have qdz20 : (x7_1 : Int) < 6 := (of_decide_eq_true (by first | (with_reducible assumption) | assumption))
              have hcdz20 : wr.cell? ⟨gb139, (x7_1 : Int).toNat, none⟩ = some (.bool (rdOf false [a0_0, a0_1, a0_2, a0_3, a0_4, a0_5] x7_1)) := arrC6 BK139.out x7_1 pdz20 qdz20
              have hfdz20 := blk_frozen BK139.out (x7_1 : Int).toNat
              (try rw [← Nbq13.out] at hcdz20)
              (try rw [← Nbq15.out] at hcdz20)
              replace pdz20 := eq_true pdz20
              replace qdz20 := eq_true qdz20
              have hnb21 := NB142_140.out
              have hnc21 := NB140_142.out
              have hnb22 := NB142_141.out
              have hnc22 := NB141_142.out
              have hcz23_0 : wr.cell? ⟨gb142, 0, none⟩ = some (.int .i64 x143000_1) := (blk_cell BK142.out 0).trans rfl
              have hcz23_1 : wr.cell? ⟨gb142, 1, none⟩ = some (.int .i64 x143001_1) := (blk_cell BK142.out 1).trans rfl
              have hfz23_0 := blk_frozen BK142.out 0
              have hfz23_1 := blk_frozen BK142.out 1
              have hnb24 := NB140_141.out
              have hnc24 := NB141_140.out
              have pdz25 : 0 ≤ (x7_1 : Int) := (of_decide_eq_true (by first | (with_reducible assumption) | assumption))
              have qdz25 : (x7_1 : Int) < 6 := (of_decide_eq_true (by first | (with_reducible assumption) | assumption))
              have hcdz25 : wr.cell? ⟨gb140, (x7_1 : Int).toNat, none⟩ = some (.bool (rdOf false [a1_0, a1_1, a1_2, a1_3, a1_4, a1_5] x7_1)) := arrC6 BK140.out x7_1 pdz25 qdz25
              have hfdz25 := blk_frozen BK140.out (x7_1 : Int).toNat
              (try rw [← Nbq13.out] at hcdz25)
              (try rw [← Nbq15.out] at hcdz25)
              replace pdz25 := eq_true pdz25
              replace qdz25 := eq_true qdz25
              go_wp2
              go_roundg k1
              case measure => have := HK1.out; omega
              case rel => exact ⟨(wrap64 (2 * x6_1)), (wrap64 (x7_1 + 1)), (wrap64 (x143000_1 + x6_1)), (wrap64 (x143001_1 + x6_1)), (by first | rfl | (simp; done) | (simp [*]; done) | (simp; grind)), (by first | rfl | (simp; done) | (simp [*]; done) | (simp; grind)), H', ⟨by have := HK1.out; omega⟩, ⟨by (with_reducible repeat (first | refine blk_drewN ?_ _ | refine blk_drew ?_ | refine blk_alloc ?_ _)); refine blk_far ?_ NB139_142.out _; (with_reducible repeat (first | refine blk_drewN ?_ _ | refine blk_drew ?_ | refine blk_alloc ?_ _)); refine blk_far ?_ NB139_142.out _; (with_reducible repeat (first | refine blk_drewN ?_ _ | refine blk_drew ?_ | refine blk_alloc ?_ _)); exact BK139.out⟩, ⟨by (with_reducible repeat (first | refine blk_drewN ?_ _ | refine blk_drew ?_ | refine blk_alloc ?_ _)); refine blk_far ?_ NB140_142.out _; (with_reducible repeat (first | refine blk_drewN ?_ _ | refine blk_drew ?_ | refine blk_alloc ?_ _)); refine blk_far ?_ NB140_142.out _; (with_reducible repeat (first | refine blk_drewN ?_ _ | refine blk_drew ?_ | refine blk_alloc ?_ _)); exact BK140.out⟩, ⟨by (with_reducible repeat (first | refine blk_drewN ?_ _ | refine blk_drew ?_ | refine blk_alloc ?_ _)); refine blk_far ?_ NB141_142.out _; (with_reducible repeat (first | refine blk_drewN ?_ _ | refine blk_drew ?_ | refine blk_alloc ?_ _)); refine blk_far ?_ NB141_142.out _; (with_reducible repeat (first | refine blk_drewN ?_ _ | refine blk_drew ?_ | refine blk_alloc ?_ _)); exact BK141.out⟩, ⟨by (with_reducible repeat (first | refine blk_drewN ?_ _ | refine blk_drew ?_ | refine blk_alloc ?_ _)); refine blk_put (cs := #[.int .i64 (wrap64 (x143000_1 + x6_1)), .int .i64 x143001_1]) ?_ 1 _ rfl; (with_reducible repeat (first | refine blk_drewN ?_ _ | refine blk_drew ?_ | refine blk_alloc ?_ _)); refine blk_put (cs := #[.int .i64 x143000_1, .int .i64 x143001_1]) ?_ 0 _ rfl; (with_reducible repeat (first | refine blk_drewN ?_ _ | refine blk_drew ?_ | refine blk_alloc ?_ _)); exact BK142.out⟩, ⟨by repeat (first | (with_reducible first | exact HB.out | apply below_alloc | apply pw_below_drewN | apply below_drew1 | refine below_set ?_ GE139.out | refine below_set ?_ GE140.out | refine below_set ?_ GE141.out | refine below_set ?_ GE142.out) | exact HB.out)⟩⟩
            · replace c16 := Bool.eq_false_iff.mpr c16
              subst c16
              have H1 : (ropewayref04_set.l0 k1 (wrap64 (2 * x6_1)) (wrap64 (x7_1 + 1)) a0_0 a0_1 a0_2 a0_3 a0_4 a0_5 a1_0 a1_1 a1_2 a1_3 a1_4 a1_5 (wrap64 (x143000_1 + x6_1)) x143001_1) = some (r1, r2) := by rw [if_neg (show ¬ (false = true) by decide)] at H; exact H
              clear H
              have H := H1
              clear H1
              have H' := Aside0.mk H
              clear H
              have hnb26 := NB139_140.out
              have hnc26 := NB140_139.out
              have hnb27 := NB139_141.out
              have hnc27 := NB141_139.out
              have hnb28 := NB139_142.out
              have hnc28 := NB142_139.out
              have pdz29 : 0 ≤ (x7_1 : Int) := (of_decide_eq_true (by first | (with_reducible assumption) | assumption))
              have qdz29 : (x7_1 : Int) < 6 := (of_decide_eq_true (by first | (with_reducible assumption) | assumption))
              have hcdz29 : wr.cell? ⟨gb139, (x7_1 : Int).toNat, none⟩ = some (.bool (rdOf false [a0_0, a0_1, a0_2, a0_3, a0_4, a0_5] x7_1)) := arrC6 BK139.out x7_1 pdz29 qdz29
              have hfdz29 := blk_frozen BK139.out (x7_1 : Int).toNat
              (try rw [← Nbq13.out] at hcdz29)
              (try rw [← Nbq15.out] at hcdz29)
              replace pdz29 := eq_true pdz29
              replace qdz29 := eq_true qdz29
              have hnb30 := NB142_140.out
              have hnc30 := NB140_142.out
              have hnb31 := NB142_141.out
              have hnc31 := NB141_142.out
              have hcz32_0 : wr.cell? ⟨gb142, 0, none⟩ = some (.int .i64 x143000_1) := (blk_cell BK142.out 0).trans rfl
              have hcz32_1 : wr.cell? ⟨gb142, 1, none⟩ = some (.int .i64 x143001_1) := (blk_cell BK142.out 1).trans rfl
              have hfz32_0 := blk_frozen BK142.out 0
              have hfz32_1 := blk_frozen BK142.out 1
              have hnb33 := NB140_141.out
              have hnc33 := NB141_140.out
              have pdz34 : 0 ≤ (x7_1 : Int) := (of_decide_eq_true (by first | (with_reducible assumption) | assumption))
              have qdz34 : (x7_1 : Int) < 6 := (of_decide_eq_true (by first | (with_reducible assumption) | assumption))
              have hcdz34 : wr.cell? ⟨gb140, (x7_1 : Int).toNat, none⟩ = some (.bool (rdOf false [a1_0, a1_1, a1_2, a1_3, a1_4, a1_5] x7_1)) := arrC6 BK140.out x7_1 pdz34 qdz34
              have hfdz34 := blk_frozen BK140.out (x7_1 : Int).toNat
              (try rw [← Nbq13.out] at hcdz34)
              (try rw [← Nbq15.out] at hcdz34)
              replace pdz34 := eq_true pdz34
              replace qdz34 := eq_true qdz34
              go_wp2
              go_roundg k1
              case measure => have := HK1.out; omega
              case rel => exact ⟨(wrap64 (2 * x6_1)), (wrap64 (x7_1 + 1)), (wrap64 (x143000_1 + x6_1)), (x143001_1), (by first | rfl | (simp; done) | (simp [*]; done) | (simp; grind)), (by first | rfl | (simp; done) | (simp [*]; done) | (simp; grind)), H', ⟨by have := HK1.out; omega⟩, ⟨by (with_reducible repeat (first | refine blk_drewN ?_ _ | refine blk_drew ?_ | refine blk_alloc ?_ _)); refine blk_far ?_ NB139_142.out _; (with_reducible repeat (first | refine blk_drewN ?_ _ | refine blk_drew ?_ | refine blk_alloc ?_ _)); exact BK139.out⟩, ⟨by (with_reducible repeat (first | refine blk_drewN ?_ _ | refine blk_drew ?_ | refine blk_alloc ?_ _)); refine blk_far ?_ NB140_142.out _; (with_reducible repeat (first | refine blk_drewN ?_ _ | refine blk_drew ?_ | refine blk_alloc ?_ _)); exact BK140.out⟩, ⟨by (with_reducible repeat (first | refine blk_drewN ?_ _ | refine blk_drew ?_ | refine blk_alloc ?_ _)); refine blk_far ?_ NB141_142.out _; (with_reducible repeat (first | refine blk_drewN ?_ _ | refine blk_drew ?_ | refine blk_alloc ?_ _)); exact BK141.out⟩, ⟨by (with_reducible repeat (first | refine blk_drewN ?_ _ | refine blk_drew ?_ | refine blk_alloc ?_ _)); refine blk_put (cs := #[.int .i64 x143000_1, .int .i64 x143001_1]) ?_ 0 _ rfl; (with_reducible repeat (first | refine blk_drewN ?_ _ | refine blk_drew ?_ | refine blk_alloc ?_ _)); exact BK142.out⟩, ⟨by repeat (first | (with_reducible first | exact HB.out | apply below_alloc | apply pw_below_drewN | apply below_drew1 | refine below_set ?_ GE139.out | refine below_set ?_ GE140.out | refine below_set ?_ GE141.out | refine below_set ?_ GE142.out) | exact HB.out)⟩⟩
          · replace c14 := Bool.eq_false_iff.mpr c14
            subst c14
            have H1 : (if rdOf false [a1_0, a1_1, a1_2, a1_3, a1_4, a1_5] x7_1 = true then (ropewayref04_set.l0 k1 (wrap64 (2 * x6_1)) (wrap64 (x7_1 + 1)) a0_0 a0_1 a0_2 a0_3 a0_4 a0_5 a1_0 a1_1 a1_2 a1_3 a1_4 a1_5 x143000_1 (wrap64 (x143001_1 + x6_1))) else (ropewayref04_set.l0 k1 (wrap64 (2 * x6_1)) (wrap64 (x7_1 + 1)) a0_0 a0_1 a0_2 a0_3 a0_4 a0_5 a1_0 a1_1 a1_2 a1_3 a1_4 a1_5 x143000_1 x143001_1)) = some (r1, r2) := by rw [if_neg (show ¬ (false = true) by decide)] at H; exact H
            clear H
            have H := H1
            clear H1
            obtain ⟨bq35, hbq35⟩ : ∃ b_ : Bool, b_ = (rdOf false [a1_0, a1_1, a1_2, a1_3, a1_4, a1_5] x7_1) := ⟨_, rfl⟩
            replace H : (if bq35 = true then (ropewayref04_set.l0 k1 (wrap64 (2 * x6_1)) (wrap64 (x7_1 + 1)) a0_0 a0_1 a0_2 a0_3 a0_4 a0_5 a1_0 a1_1 a1_2 a1_3 a1_4 a1_5 x143000_1 (wrap64 (x143001_1 + x6_1))) else (ropewayref04_set.l0 k1 (wrap64 (2 * x6_1)) (wrap64 (x7_1 + 1)) a0_0 a0_1 a0_2 a0_3 a0_4 a0_5 a1_0 a1_1 a1_2 a1_3 a1_4 a1_5 x143000_1 x143001_1)) = some (r1, r2) := by rw [← hbq35] at H; exact H
            have Nbq35 := Aside0.mk hbq35
            clear hbq35
            by_cases c36 : bq35 = true
            · subst c36
              have H1 : (ropewayref04_set.l0 k1 (wrap64 (2 * x6_1)) (wrap64 (x7_1 + 1)) a0_0 a0_1 a0_2 a0_3 a0_4 a0_5 a1_0 a1_1 a1_2 a1_3 a1_4 a1_5 x143000_1 (wrap64 (x143001_1 + x6_1))) = some (r1, r2) := by rw [if_pos rfl] at H; exact H
              clear H
              have H := H1
              clear H1
              have H' := Aside0.mk H
              clear H
              have hnb37 := NB139_140.out
              have hnc37 := NB140_139.out
              have hnb38 := NB139_141.out
              have hnc38 := NB141_139.out
              have hnb39 := NB139_142.out
              have hnc39 := NB142_139.out
              have pdz40 : 0 ≤ (x7_1 : Int) := (of_decide_eq_true (by first | (with_reducible assumption) | assumption))
              have qdz40 : (x7_1 : Int) < 6 := (of_decide_eq_true (by first | (with_reducible assumption) | assumption))
              have hcdz40 : wr.cell? ⟨gb139, (x7_1 : Int).toNat, none⟩ = some (.bool (rdOf false [a0_0, a0_1, a0_2, a0_3, a0_4, a0_5] x7_1)) := arrC6 BK139.out x7_1 pdz40 qdz40
              have hfdz40 := blk_frozen BK139.out (x7_1 : Int).toNat
              (try rw [← Nbq13.out] at hcdz40)
              (try rw [← Nbq35.out] at hcdz40)
              replace pdz40 := eq_true pdz40
              replace qdz40 := eq_true qdz40
              have hnb41 := NB140_141.out
              have hnc41 := NB141_140.out
              have hnb42 := NB140_142.out
              have hnc42 := NB142_140.out
              have pdz43 : 0 ≤ (x7_1 : Int) := (of_decide_eq_true (by first | (with_reducible assumption) | assumption))
              have qdz43 : (x7_1 : Int) < 6 := (of_decide_eq_true (by first | (with_reducible assumption) | assumption))
              have hcdz43 : wr.cell? ⟨gb140, (x7_1 : Int).toNat, none⟩ = some (.bool (rdOf false [a1_0, a1_1, a1_2, a1_3, a1_4, a1_5] x7_1)) := arrC6 BK140.out x7_1 pdz43 qdz43
              have hfdz43 := blk_frozen BK140.out (x7_1 : Int).toNat
              (try rw [← Nbq13.out] at hcdz43)
              (try rw [← Nbq35.out] at hcdz43)
              replace pdz43 := eq_true pdz43
              replace qdz43 := eq_true qdz43
              have hnb44 := NB142_141.out
              have hnc44 := NB141_142.out
              have hcz45_0 : wr.cell? ⟨gb142, 0, none⟩ = some (.int .i64 x143000_1) := (blk_cell BK142.out 0).trans rfl
              have hcz45_1 : wr.cell? ⟨gb142, 1, none⟩ = some (.int .i64 x143001_1) := (blk_cell BK142.out 1).trans rfl
              have hfz45_0 := blk_frozen BK142.out 0
              have hfz45_1 := blk_frozen BK142.out 1
              go_wp2
              go_roundg k1
              case measure => have := HK1.out; omega
              case rel => exact ⟨(wrap64 (2 * x6_1)), (wrap64 (x7_1 + 1)), (x143000_1), (wrap64 (x143001_1 + x6_1)), (by first | rfl | (simp; done) | (simp [*]; done) | (simp; grind)), (by first | rfl | (simp; done) | (simp [*]; done) | (simp; grind)), H', ⟨by have := HK1.out; omega⟩, ⟨by (with_reducible repeat (first | refine blk_drewN ?_ _ | refine blk_drew ?_ | refine blk_alloc ?_ _)); refine blk_far ?_ NB139_142.out _; (with_reducible repeat (first | refine blk_drewN ?_ _ | refine blk_drew ?_ | refine blk_alloc ?_ _)); exact BK139.out⟩, ⟨by (with_reducible repeat (first | refine blk_drewN ?_ _ | refine blk_drew ?_ | refine blk_alloc ?_ _)); refine blk_far ?_ NB140_142.out _; (with_reducible repeat (first | refine blk_drewN ?_ _ | refine blk_drew ?_ | refine blk_alloc ?_ _)); exact BK140.out⟩, ⟨by (with_reducible repeat (first | refine blk_drewN ?_ _ | refine blk_drew ?_ | refine blk_alloc ?_ _)); refine blk_far ?_ NB141_142.out _; (with_reducible repeat (first | refine blk_drewN ?_ _ | refine blk_drew ?_ | refine blk_alloc ?_ _)); exact BK141.out⟩, ⟨by (with_reducible repeat (first | refine blk_drewN ?_ _ | refine blk_drew ?_ | refine blk_alloc ?_ _)); refine blk_put (cs := #[.int .i64 x143000_1, .int .i64 x143001_1]) ?_ 1 _ rfl; (with_reducible repeat (first | refine blk_drewN ?_ _ | refine blk_drew ?_ | refine blk_alloc ?_ _)); exact BK142.out⟩, ⟨by repeat (first | (with_reducible first | exact HB.out | apply below_alloc | apply pw_below_drewN | apply below_drew1 | refine below_set ?_ GE139.out | refine below_set ?_ GE140.out | refine below_set ?_ GE141.out | refine below_set ?_ GE142.out) | exact HB.out)⟩⟩
            · replace c36 := Bool.eq_false_iff.mpr c36
              subst c36
              have H1 : (ropewayref04_set.l0 k1 (wrap64 (2 * x6_1)) (wrap64 (x7_1 + 1)) a0_0 a0_1 a0_2 a0_3 a0_4 a0_5 a1_0 a1_1 a1_2 a1_3 a1_4 a1_5 x143000_1 x143001_1) = some (r1, r2) := by rw [if_neg (show ¬ (false = true) by decide)] at H; exact H
              clear H
              have H := H1
              clear H1
              have H' := Aside0.mk H
              clear H
              have hnb46 := NB139_140.out
              have hnc46 := NB140_139.out
              have hnb47 := NB139_141.out
              have hnc47 := NB141_139.out
              have hnb48 := NB139_142.out
              have hnc48 := NB142_139.out
              have pdz49 : 0 ≤ (x7_1 : Int) := (of_decide_eq_true (by first | (with_reducible assumption) | assumption))
              have qdz49 : (x7_1 : Int) < 6 := (of_decide_eq_true (by first | (with_reducible assumption) | assumption))
              have hcdz49 : wr.cell? ⟨gb139, (x7_1 : Int).toNat, none⟩ = some (.bool (rdOf false [a0_0, a0_1, a0_2, a0_3, a0_4, a0_5] x7_1)) := arrC6 BK139.out x7_1 pdz49 qdz49
              have hfdz49 := blk_frozen BK139.out (x7_1 : Int).toNat
              (try rw [← Nbq13.out] at hcdz49)
              (try rw [← Nbq35.out] at hcdz49)
              replace pdz49 := eq_true pdz49
              replace qdz49 := eq_true qdz49
              have hnb50 := NB140_141.out
              have hnc50 := NB141_140.out
              have hnb51 := NB140_142.out
              have hnc51 := NB142_140.out
              have pdz52 : 0 ≤ (x7_1 : Int) := (of_decide_eq_true (by first | (with_reducible assumption) | assumption))
              have qdz52 : (x7_1 : Int) < 6 := (of_decide_eq_true (by first | (with_reducible assumption) | assumption))
              have hcdz52 : wr.cell? ⟨gb140, (x7_1 : Int).toNat, none⟩ = some (.bool (rdOf false [a1_0, a1_1, a1_2, a1_3, a1_4, a1_5] x7_1)) := arrC6 BK140.out x7_1 pdz52 qdz52
              have hfdz52 := blk_frozen BK140.out (x7_1 : Int).toNat
              (try rw [← Nbq13.out] at hcdz52)
              (try rw [← Nbq35.out] at hcdz52)
              replace pdz52 := eq_true pdz52
              replace qdz52 := eq_true qdz52
              go_wp2
              go_roundg k1
              case measure => have := HK1.out; omega
              case rel => exact ⟨(wrap64 (2 * x6_1)), (wrap64 (x7_1 + 1)), (x143000_1), (x143001_1), (by first | rfl | (simp; done) | (simp [*]; done) | (simp; grind)), (by first | rfl | (simp; done) | (simp [*]; done) | (simp; grind)), H', ⟨by have := HK1.out; omega⟩, ⟨by (with_reducible repeat (first | refine blk_drewN ?_ _ | refine blk_drew ?_ | refine blk_alloc ?_ _)); exact BK139.out⟩, ⟨by (with_reducible repeat (first | refine blk_drewN ?_ _ | refine blk_drew ?_ | refine blk_alloc ?_ _)); exact BK140.out⟩, ⟨by (with_reducible repeat (first | refine blk_drewN ?_ _ | refine blk_drew ?_ | refine blk_alloc ?_ _)); exact BK141.out⟩, ⟨by (with_reducible repeat (first | refine blk_drewN ?_ _ | refine blk_drew ?_ | refine blk_alloc ?_ _)); exact BK142.out⟩, ⟨by repeat (first | (with_reducible first | exact HB.out | apply below_alloc | apply pw_below_drewN | apply below_drew1 | refine below_set ?_ GE139.out | refine below_set ?_ GE140.out | refine below_set ?_ GE141.out | refine below_set ?_ GE142.out) | exact HB.out)⟩⟩
        · rw [if_neg c12] at H
          exact absurd H (by simp)
      · rw [if_neg c11] at H
        have c11b0 : decide (x7_1 < 6) = false := decide_eq_false c11
        clear c11
        simp only [Option.some.injEq, Prod.mk.injEq] at H
        obtain ⟨rfl, rfl⟩ := H
        have hnb53 := NB142_139.out
        have hnc53 := NB139_142.out
        have hnb54 := NB142_140.out
        have hnc54 := NB140_142.out
        have hnb55 := NB142_141.out
        have hnc55 := NB141_142.out
        have hcz56_0 : wr.cell? ⟨gb142, 0, none⟩ = some (.int .i64 x143000_1) := (blk_cell BK142.out 0).trans rfl
        have hcz56_1 : wr.cell? ⟨gb142, 1, none⟩ = some (.int .i64 x143001_1) := (blk_cell BK142.out 1).trans rfl
        have hfz56_0 := blk_frozen BK142.out 0
        have hfz56_1 := blk_frozen BK142.out 1
        have hnb57 := NB141_139.out
        have hnc57 := NB139_141.out
        have hnb58 := NB141_140.out
        have hnc58 := NB140_141.out
        have hcz59_0 : wr.cell? ⟨gb141, 0, none⟩ = some (.int .i64 0) := (blk_cell BK141.out 0).trans rfl
        have hcz59_1 : wr.cell? ⟨gb141, 1, none⟩ = some (.int .i64 0) := (blk_cell BK141.out 1).trans rfl
        have hfz59_0 := blk_frozen BK141.out 0
        have hfz59_1 := blk_frozen BK141.out 1
        go_wp2
        refine bodyPost_ret (results_cell_row rfl _ _ gb141 38 #[.int .i64 x143000_1, .int .i64 x143001_1] (0, 0) _ rfl (by (with_reducible repeat (first | refine blk_drewN ?_ _ | refine blk_drew ?_ | refine blk_alloc ?_ _)); refine blk_put (cs := #[.int .i64 x143000_1, .int .i64 0]) ?_ 1 _ rfl; (with_reducible repeat (first | refine blk_drewN ?_ _ | refine blk_drew ?_ | refine blk_alloc ?_ _)); refine blk_put (cs := #[.int .i64 0, .int .i64 0]) ?_ 0 _ rfl; (with_reducible repeat (first | refine blk_drewN ?_ _ | refine blk_drew ?_ | refine blk_alloc ?_ _)); exact BK141.out) Try.underlying38 rfl (by kernel_rfl)) rfl ?_
        exact ⟨by first | rfl | (simp [errW_none, errW_some] <;> rfl) | (simp [*, errW_none, errW_some] <;> rfl), by repeat (first | (with_reducible first | exact HB.out | apply below_alloc | apply pw_below_drewN | apply below_drew1 | refine below_set ?_ GE139.out | refine below_set ?_ GE140.out | refine below_set ?_ GE141.out | refine below_set ?_ GE142.out) | exact HB.out)⟩

/-! ### ropewayref04_bit: function 51 -/
def ropewayref04_bit.l0 : Nat → Int → Int → Int → Option (Bool)
  | 0, _, _, _ => none
  | k + 1, x0, x1, x5 => if x5 < x1 then (ropewayref04_bit.l0 k (wrap64 (Int.tdiv x0 2)) x1 (wrap64 (x5 + 1))) else (some ((Int.tmod x0 2) == 1))
def ropewayref04_bit.f (k : Nat) (a0 : Int) (a1 : Int) : Option (Bool) := ropewayref04_bit.l0 k a0 a1 0
theorem ropewayref04_bit.mono_l : ∀ k, (∀ y0 y1 y2, LeO (ropewayref04_bit.l0 k y0 y1 y2) (ropewayref04_bit.l0 (k + 1) y0 y1 y2))
  | 0 => fun _ _ _ r h => by simp [ropewayref04_bit.l0] at h
  | k + 1 => by
    have ih0 := ropewayref04_bit.mono_l k
    · intro y0 y1 y2
      unfold ropewayref04_bit.l0
      repeat' first
      | (with_reducible exact ih0 _ _ _)
      | (with_reducible exact LeO.refl _)
      | (with_reducible exact LeO.none _)
      | (with_reducible refine LeO.ite ?_ ?_)
      | (with_reducible refine LeO.bind ?_ (fun _ => ?_))
      | exact ih0 _ _ _
      | exact LeO.none _
      | refine LeO.ite ?_ ?_
      | refine LeO.bind ?_ (fun _ => ?_)
theorem ropewayref04_bit.mono : ∀ a0 a1 k, LeO (ropewayref04_bit.f k a0 a1) (ropewayref04_bit.f (k + 1) a0 a1) := by
  intro a0 a1 k
  have ih0 := ropewayref04_bit.mono_l k
  unfold ropewayref04_bit.f
  repeat' first
      | (with_reducible exact ih0 _ _ _)
      | (with_reducible exact LeO.refl _)
      | (with_reducible exact LeO.none _)
      | (with_reducible refine LeO.ite ?_ ?_)
      | (with_reducible refine LeO.bind ?_ (fun _ => ?_))
      | exact ih0 _ _ _
      | exact LeO.none _
      | refine LeO.ite ?_ ?_
      | refine LeO.bind ?_ (fun _ => ?_)
set_option maxHeartbeats 8000000 in
set_option maxRecDepth 100000 in
theorem ropewayref04_bit.calls (k : Nat) (a0 : Int) (a1 : Int) (r : Bool) (w : World) (h : ropewayref04_bit.f k a0 a1 = some r) :
    Calls Try.prog 51 #[.int .i64 a0, .int .i64 a1] w fun e w' => e = .returned (.bool r) ∧ Drawn0 w w' := by
  have H : (ropewayref04_bit.l0 k a0 a1 0) = some r := h
  clear h
  have H' := Aside0.mk H
  clear H
  go_enter Try.func51, Try.ntmps51
  go_wp2
  go_loopg [0, 5] k (fun kq v0 v5 w' => ∃ (x0_1 : Int) (x5_1 : Int), v0 = .int .i64 x0_1 ∧ v5 = .int .i64 x5_1 ∧ Aside0 (ropewayref04_bit.l0 kq x0_1 a1 x5_1 = some r) ∧ Aside0 (kq ≤ k) ∧ Drawn0 w w')
  case atStart => exact ⟨(a0), (0), (by first | rfl | (simp; done) | (simp [*]; done) | (simp; grind)), (by first | rfl | (simp; done) | (simp [*]; done) | (simp; grind)), H', ⟨Nat.le_refl _⟩, by repeat (first | exact Drawn0.refl _ | apply Drawn0.step)⟩
  case round =>
    clear H'
    try clear p2
    obtain ⟨x0_1, x5_1, rfl, rfl, HA, HK1, ⟨m1, rfl⟩⟩ := hrel
    cases gk with
    | zero => exact absurd HA.out (by simp [ropewayref04_bit.l0])
    | succ k1 =>
      have H := HA.out
      clear HA
      simp only [ropewayref04_bit.l0] at H
      by_cases c3 : x5_1 < a1
      · rw [if_pos c3] at H
        have c3b0 : decide (x5_1 < a1) = true := decide_eq_true c3
        clear c3
        have H' := Aside0.mk H
        clear H
        go_wp2
        go_roundg k1
        case measure => have := HK1.out; omega
        case rel => exact ⟨(wrap64 (Int.tdiv x0_1 2)), (wrap64 (x5_1 + 1)), (by first | rfl | (simp; done) | (simp [*]; done) | (simp; grind)), (by first | rfl | (simp; done) | (simp [*]; done) | (simp; grind)), H', ⟨by have := HK1.out; omega⟩, by repeat (first | exact Drawn0.refl _ | apply Drawn0.step)⟩
      · rw [if_neg c3] at H
        have c3b0 : decide (x5_1 < a1) = false := decide_eq_false c3
        clear c3
        obtain rfl := Option.some.inj H
        go_wp2
        go_ret
        exact ⟨by first | rfl | (simp; done) | (simp [*]; done) | (simp; grind), by repeat (first | exact Drawn0.refl _ | apply Drawn0.step)⟩

/-! ### ropewayref04_Has: function 46 -/
def ropewayref04_Has.f (k : Nat) (a0_0 : Int) (a0_1 : Int) (a1 : Int) : Option (Bool × Bool) := (ropewayref04_bit.f k a0_0 a1).bind fun t144 => ((ropewayref04_bit.f k a0_1 a1).bind fun t145 => (some (t144, t145)))
theorem ropewayref04_Has.mono : ∀ a0 a1 a2 k, LeO (ropewayref04_Has.f k a0 a1 a2) (ropewayref04_Has.f (k + 1) a0 a1 a2) := by
  intro a0 a1 a2 k
  unfold ropewayref04_Has.f
  repeat' first
      | (with_reducible exact ropewayref04_bit.mono _ _ _)
      | (with_reducible exact LeO.refl _)
      | (with_reducible exact LeO.none _)
      | (with_reducible refine LeO.ite ?_ ?_)
      | (with_reducible refine LeO.bind ?_ (fun _ => ?_))
      | exact ropewayref04_bit.mono _ _ _
      | exact LeO.none _
      | refine LeO.ite ?_ ?_
      | refine LeO.bind ?_ (fun _ => ?_)
set_option maxHeartbeats 8000000 in
set_option maxRecDepth 100000 in
theorem ropewayref04_Has.calls (k : Nat) (a0_0 : Int) (a0_1 : Int) (a1 : Int) (r1 : Bool) (r2 : Bool) (w : World) (h : ropewayref04_Has.f k a0_0 a0_1 a1 = some (r1, r2)) :
    Calls Try.prog 46 #[.agg #[.int .i64 a0_0, .int .i64 a0_1], .int .i64 a1] w fun e w' => e = .returned (.tuple #[.bool r1, .bool r2]) ∧ Below w.heap.size w w' := by
  have hu38 := Try.underlying38
  have HB := Aside0.mk (Below.refl w.heap.size w)
  have H : ((ropewayref04_bit.f k a0_0 a1).bind fun t144 => ((ropewayref04_bit.f k a0_1 a1).bind fun t145 => (some (t144, t145)))) = some (r1, r2) := h
  clear h
  replace H := Option.bind_eq_some_iff.mp H
  obtain ⟨t144, A30, H⟩ := H
  replace H : ((ropewayref04_bit.f k a0_1 a1).bind fun t145 => (some (t144, t145))) = some (r1, r2) := H
  have A3 := Aside0.mk A30
  clear A30
  replace H := Option.bind_eq_some_iff.mp H
  obtain ⟨t145, A40, H⟩ := H
  replace H : (some (t144, t145)) = some (r1, r2) := H
  have A4 := Aside0.mk A40
  clear A40
  simp only [Option.some.injEq, Prod.mk.injEq] at H
  obtain ⟨rfl, rfl⟩ := H
  go_enter Try.func46, Try.ntmps46
  go_wp2_with (first | ((with_reducible refine gate_dst (N := 2) rfl ?_); refine box_event ?hg (N := 2) ?hd (cs := #[.int .i64 a0_0, .int .i64 a0_1]) (t := 38) ?hr ?_; (case hd => rfl); (case hg => rfl); (case hr => first | (go_simp; done) | (go_simp; rfl)); intro gb143 hg w5 hbox hb; have n0_ := Aside0.mk (below_step (by repeat (first | (with_reducible first | exact HB.out | apply below_alloc | apply pw_below_drewN | apply below_drew1) | exact HB.out)) hb); have n1_ := Aside0.mk (hbox); have n2_ := Aside0.mk ((by rw [hg]; exact (below_size (by repeat (first | (with_reducible first | exact HB.out | apply below_alloc | apply pw_below_drewN | apply below_drew1) | exact HB.out))) : w.heap.size ≤ gb143)); have n3_ := Aside0.mk ((by rw [hg]; exact (below_size (by repeat (first | (with_reducible first | exact HB.out | apply below_alloc | apply pw_below_drewN | apply below_drew1) | exact HB.out))) : w.heap.size ≤ gb143)); clear HB; have HB := n0_; have BK143 := n1_; have GW143 := n2_; have GE143 := n3_; clear n0_ n1_ n2_ n3_; clear hb hbox hg; have hcz6_0 : w5.cell? ⟨gb143, 0, none⟩ = some (.int .i64 a0_0) := (blk_cell BK143.out 0).trans rfl; have hcz6_1 : w5.cell? ⟨gb143, 1, none⟩ = some (.int .i64 a0_1) := (blk_cell BK143.out 1).trans rfl; have hfz6_0 := blk_frozen BK143.out 0; have hfz6_1 := blk_frozen BK143.out 1) | (go_at_call 51; (with_reducible refine (ropewayref04_bit.calls k a0_0 a1 t144 _ A3.out).mono ?_); rintro e w' ⟨rfl, ⟨nd, rfl⟩⟩; (try first | exact ⟨rfl, _, World.drewN_drewN _ _ _⟩ | exact ⟨rfl, _, Eq.trans (World.drewN_drewN _ _ _) (congrArg (World.drewN _) (Nat.add_assoc _ _ _))⟩)) | (go_at_call 51; (with_reducible refine (ropewayref04_bit.calls k a0_1 a1 t145 _ A4.out).mono ?_); rintro e w' ⟨rfl, ⟨nd, rfl⟩⟩; (try first | exact ⟨rfl, _, World.drewN_drewN _ _ _⟩ | exact ⟨rfl, _, Eq.trans (World.drewN_drewN _ _ _) (congrArg (World.drewN _) (Nat.add_assoc _ _ _))⟩)))
  repeat (go_quiet (first | ((with_reducible refine gate_dst (N := 2) rfl ?_); refine box_event ?hg (N := 2) ?hd (cs := #[.int .i64 a0_0, .int .i64 a0_1]) (t := 38) ?hr ?_; (case hd => rfl); (case hg => rfl); (case hr => first | (go_simp; done) | (go_simp; rfl)); intro gb143 hg w5 hbox hb; have n0_ := Aside0.mk (below_step (by repeat (first | (with_reducible first | exact HB.out | apply below_alloc | apply pw_below_drewN | apply below_drew1) | exact HB.out)) hb); have n1_ := Aside0.mk (hbox); have n2_ := Aside0.mk ((by rw [hg]; exact (below_size (by repeat (first | (with_reducible first | exact HB.out | apply below_alloc | apply pw_below_drewN | apply below_drew1) | exact HB.out))) : w.heap.size ≤ gb143)); have n3_ := Aside0.mk ((by rw [hg]; exact (below_size (by repeat (first | (with_reducible first | exact HB.out | apply below_alloc | apply pw_below_drewN | apply below_drew1) | exact HB.out))) : w.heap.size ≤ gb143)); clear HB; have HB := n0_; have BK143 := n1_; have GW143 := n2_; have GE143 := n3_; clear n0_ n1_ n2_ n3_; clear hb hbox hg; have hcz6_0 : w5.cell? ⟨gb143, 0, none⟩ = some (.int .i64 a0_0) := (blk_cell BK143.out 0).trans rfl; have hcz6_1 : w5.cell? ⟨gb143, 1, none⟩ = some (.int .i64 a0_1) := (blk_cell BK143.out 1).trans rfl; have hfz6_0 := blk_frozen BK143.out 0; have hfz6_1 := blk_frozen BK143.out 1) | (go_at_call 51; (with_reducible refine (ropewayref04_bit.calls k a0_0 a1 t144 _ A3.out).mono ?_); rintro e w' ⟨rfl, ⟨nd, rfl⟩⟩; (try first | exact ⟨rfl, _, World.drewN_drewN _ _ _⟩ | exact ⟨rfl, _, Eq.trans (World.drewN_drewN _ _ _) (congrArg (World.drewN _) (Nat.add_assoc _ _ _))⟩)) | (go_at_call 51; (with_reducible refine (ropewayref04_bit.calls k a0_1 a1 t145 _ A4.out).mono ?_); rintro e w' ⟨rfl, ⟨nd, rfl⟩⟩; (try first | exact ⟨rfl, _, World.drewN_drewN _ _ _⟩ | exact ⟨rfl, _, Eq.trans (World.drewN_drewN _ _ _) (congrArg (World.drewN _) (Nat.add_assoc _ _ _))⟩))); try go_wp2_with (first | ((with_reducible refine gate_dst (N := 2) rfl ?_); refine box_event ?hg (N := 2) ?hd (cs := #[.int .i64 a0_0, .int .i64 a0_1]) (t := 38) ?hr ?_; (case hd => rfl); (case hg => rfl); (case hr => first | (go_simp; done) | (go_simp; rfl)); intro gb143 hg w5 hbox hb; have n0_ := Aside0.mk (below_step (by repeat (first | (with_reducible first | exact HB.out | apply below_alloc | apply pw_below_drewN | apply below_drew1) | exact HB.out)) hb); have n1_ := Aside0.mk (hbox); have n2_ := Aside0.mk ((by rw [hg]; exact (below_size (by repeat (first | (with_reducible first | exact HB.out | apply below_alloc | apply pw_below_drewN | apply below_drew1) | exact HB.out))) : w.heap.size ≤ gb143)); have n3_ := Aside0.mk ((by rw [hg]; exact (below_size (by repeat (first | (with_reducible first | exact HB.out | apply below_alloc | apply pw_below_drewN | apply below_drew1) | exact HB.out))) : w.heap.size ≤ gb143)); clear HB; have HB := n0_; have BK143 := n1_; have GW143 := n2_; have GE143 := n3_; clear n0_ n1_ n2_ n3_; clear hb hbox hg; have hcz6_0 : w5.cell? ⟨gb143, 0, none⟩ = some (.int .i64 a0_0) := (blk_cell BK143.out 0).trans rfl; have hcz6_1 : w5.cell? ⟨gb143, 1, none⟩ = some (.int .i64 a0_1) := (blk_cell BK143.out 1).trans rfl; have hfz6_0 := blk_frozen BK143.out 0; have hfz6_1 := blk_frozen BK143.out 1) | (go_at_call 51; (with_reducible refine (ropewayref04_bit.calls k a0_0 a1 t144 _ A3.out).mono ?_); rintro e w' ⟨rfl, ⟨nd, rfl⟩⟩; (try first | exact ⟨rfl, _, World.drewN_drewN _ _ _⟩ | exact ⟨rfl, _, Eq.trans (World.drewN_drewN _ _ _) (congrArg (World.drewN _) (Nat.add_assoc _ _ _))⟩)) | (go_at_call 51; (with_reducible refine (ropewayref04_bit.calls k a0_1 a1 t145 _ A4.out).mono ?_); rintro e w' ⟨rfl, ⟨nd, rfl⟩⟩; (try first | exact ⟨rfl, _, World.drewN_drewN _ _ _⟩ | exact ⟨rfl, _, Eq.trans (World.drewN_drewN _ _ _) (congrArg (World.drewN _) (Nat.add_assoc _ _ _))⟩))))
  go_ret2
  exact ⟨by first | rfl | (simp [errW_none, errW_some] <;> rfl) | (simp [*, errW_none, errW_some] <;> rfl), by repeat (first | (with_reducible first | exact HB.out | apply below_alloc | apply pw_below_drewN | apply below_drew1 | refine below_set ?_ GE143.out) | exact HB.out)⟩

/-! ### ropewayref04_Join: function 35 -/
mutual
def ropewayref04_Join.l0 : Nat → List (S38) → Int → Int → Bool → Bool → Bool → Bool → Bool → Bool → Bool → Bool → Bool → Bool → Bool → Bool → Option (Int × Int)
  | 0, _, _, _, _, _, _, _, _, _, _, _, _, _, _, _ => none
  | k + 1, x12, x13, x14, x148000, x148001, x148002, x148003, x148004, x148005, x149000, x149001, x149002, x149003, x149004, x149005 => if x14 < x13 then (if 0 ≤ x14 then (if x14 < (x12.length : Int) then (ropewayref04_Join.l1 k 0 x12 x13 x14 x148000 x148001 x148002 x148003 x148004 x148005 x149000 x149001 x149002 x149003 x149004 x149005 ((rd_T38 x12 x14).f0) ((rd_T38 x12 x14).f1)) else (none)) else (none)) else ((ropewayref04_set.f k x148000 x148001 x148002 x148003 x148004 x148005 x149000 x149001 x149002 x149003 x149004 x149005).bind fun bt149 => (some (bt149.1, bt149.2)))
def ropewayref04_Join.l1 : Nat → Int → List (S38) → Int → Int → Bool → Bool → Bool → Bool → Bool → Bool → Bool → Bool → Bool → Bool → Bool → Bool → Int → Int → Option (Int × Int)
  | 0, _, _, _, _, _, _, _, _, _, _, _, _, _, _, _, _, _, _ => none
  | k + 1, x7, x12, x13, x14, x148000, x148001, x148002, x148003, x148004, x148005, x149000, x149001, x149002, x149003, x149004, x149005, x153000, x153001 => if x7 < 6 then ((ropewayref04_Has.f k x153000 x153001 x7).bind fun bt153 => (if 0 ≤ x7 then (if rdOf false [x148000, x148001, x148002, x148003, x148004, x148005] x7 = true then (if rdOf false [x149000, x149001, x149002, x149003, x149004, x149005] x7 = true then (ropewayref04_Join.l1 k (wrap64 (x7 + 1)) x12 x13 x14 (stA x7 0 true x148000) (stA x7 1 true x148001) (stA x7 2 true x148002) (stA x7 3 true x148003) (stA x7 4 true x148004) (stA x7 5 true x148005) (stA x7 0 true x149000) (stA x7 1 true x149001) (stA x7 2 true x149002) (stA x7 3 true x149003) (stA x7 4 true x149004) (stA x7 5 true x149005) x153000 x153001) else (ropewayref04_Join.l1 k (wrap64 (x7 + 1)) x12 x13 x14 (stA x7 0 true x148000) (stA x7 1 true x148001) (stA x7 2 true x148002) (stA x7 3 true x148003) (stA x7 4 true x148004) (stA x7 5 true x148005) (stA x7 0 bt153.2 x149000) (stA x7 1 bt153.2 x149001) (stA x7 2 bt153.2 x149002) (stA x7 3 bt153.2 x149003) (stA x7 4 bt153.2 x149004) (stA x7 5 bt153.2 x149005) x153000 x153001)) else (if rdOf false [x149000, x149001, x149002, x149003, x149004, x149005] x7 = true then (ropewayref04_Join.l1 k (wrap64 (x7 + 1)) x12 x13 x14 (stA x7 0 bt153.1 x148000) (stA x7 1 bt153.1 x148001) (stA x7 2 bt153.1 x148002) (stA x7 3 bt153.1 x148003) (stA x7 4 bt153.1 x148004) (stA x7 5 bt153.1 x148005) (stA x7 0 true x149000) (stA x7 1 true x149001) (stA x7 2 true x149002) (stA x7 3 true x149003) (stA x7 4 true x149004) (stA x7 5 true x149005) x153000 x153001) else (ropewayref04_Join.l1 k (wrap64 (x7 + 1)) x12 x13 x14 (stA x7 0 bt153.1 x148000) (stA x7 1 bt153.1 x148001) (stA x7 2 bt153.1 x148002) (stA x7 3 bt153.1 x148003) (stA x7 4 bt153.1 x148004) (stA x7 5 bt153.1 x148005) (stA x7 0 bt153.2 x149000) (stA x7 1 bt153.2 x149001) (stA x7 2 bt153.2 x149002) (stA x7 3 bt153.2 x149003) (stA x7 4 bt153.2 x149004) (stA x7 5 bt153.2 x149005) x153000 x153001))) else (none))) else (ropewayref04_Join.l0 k x12 x13 (wrap64 (x14 + 1)) x148000 x148001 x148002 x148003 x148004 x148005 x149000 x149001 x149002 x149003 x149004 x149005)
end
def ropewayref04_Join.f (k : Nat) (l0 : List (S38)) : Option (Int × Int) := ropewayref04_Join.l0 k l0 (l0.length : Int) 0 false false false false false false false false false false false false
theorem ropewayref04_Join.mono_l : ∀ k, (∀ y0 y1 y2 y3 y4 y5 y6 y7 y8 y9 y10 y11 y12 y13 y14, LeO (ropewayref04_Join.l0 k y0 y1 y2 y3 y4 y5 y6 y7 y8 y9 y10 y11 y12 y13 y14) (ropewayref04_Join.l0 (k + 1) y0 y1 y2 y3 y4 y5 y6 y7 y8 y9 y10 y11 y12 y13 y14)) ∧ (∀ y0 y1 y2 y3 y4 y5 y6 y7 y8 y9 y10 y11 y12 y13 y14 y15 y16 y17, LeO (ropewayref04_Join.l1 k y0 y1 y2 y3 y4 y5 y6 y7 y8 y9 y10 y11 y12 y13 y14 y15 y16 y17) (ropewayref04_Join.l1 (k + 1) y0 y1 y2 y3 y4 y5 y6 y7 y8 y9 y10 y11 y12 y13 y14 y15 y16 y17))
  | 0 => ⟨fun _ _ _ _ _ _ _ _ _ _ _ _ _ _ _ r h => by simp [ropewayref04_Join.l0] at h, fun _ _ _ _ _ _ _ _ _ _ _ _ _ _ _ _ _ _ r h => by simp [ropewayref04_Join.l1] at h⟩
  | k + 1 => by
    obtain ⟨ih0, ih1⟩ := ropewayref04_Join.mono_l k
    refine ⟨?_, ?_⟩
    · intro y0 y1 y2 y3 y4 y5 y6 y7 y8 y9 y10 y11 y12 y13 y14
      unfold ropewayref04_Join.l0
      repeat' first
      | (with_reducible exact ih0 _ _ _ _ _ _ _ _ _ _ _ _ _ _ _)
      | (with_reducible exact ih1 _ _ _ _ _ _ _ _ _ _ _ _ _ _ _ _ _ _)
      | (with_reducible exact ropewayref04_Has.mono _ _ _ _)
      | (with_reducible exact ropewayref04_set.mono _ _ _ _ _ _ _ _ _ _ _ _ _)
      | (with_reducible exact LeO.refl _)
      | (with_reducible exact LeO.none _)
      | (with_reducible refine LeO.ite ?_ ?_)
      | (with_reducible refine LeO.bind ?_ (fun _ => ?_))
      | exact ih0 _ _ _ _ _ _ _ _ _ _ _ _ _ _ _
      | exact ih1 _ _ _ _ _ _ _ _ _ _ _ _ _ _ _ _ _ _
      | exact ropewayref04_Has.mono _ _ _ _
      | exact ropewayref04_set.mono _ _ _ _ _ _ _ _ _ _ _ _ _
      | exact LeO.none _
      | refine LeO.ite ?_ ?_
      | refine LeO.bind ?_ (fun _ => ?_)
    · intro y0 y1 y2 y3 y4 y5 y6 y7 y8 y9 y10 y11 y12 y13 y14 y15 y16 y17
      unfold ropewayref04_Join.l1
      repeat' first
      | (with_reducible exact ih0 _ _ _ _ _ _ _ _ _ _ _ _ _ _ _)
      | (with_reducible exact ih1 _ _ _ _ _ _ _ _ _ _ _ _ _ _ _ _ _ _)
      | (with_reducible exact ropewayref04_Has.mono _ _ _ _)
      | (with_reducible exact ropewayref04_set.mono _ _ _ _ _ _ _ _ _ _ _ _ _)
      | (with_reducible exact LeO.refl _)
      | (with_reducible exact LeO.none _)
      | (with_reducible refine LeO.ite ?_ ?_)
      | (with_reducible refine LeO.bind ?_ (fun _ => ?_))
      | exact ih0 _ _ _ _ _ _ _ _ _ _ _ _ _ _ _
      | exact ih1 _ _ _ _ _ _ _ _ _ _ _ _ _ _ _ _ _ _
      | exact ropewayref04_Has.mono _ _ _ _
      | exact ropewayref04_set.mono _ _ _ _ _ _ _ _ _ _ _ _ _
      | exact LeO.none _
      | refine LeO.ite ?_ ?_
      | refine LeO.bind ?_ (fun _ => ?_)
theorem ropewayref04_Join.mono : ∀ a0 k, LeO (ropewayref04_Join.f k a0) (ropewayref04_Join.f (k + 1) a0) := by
  intro a0 k
  obtain ⟨ih0, ih1⟩ := ropewayref04_Join.mono_l k
  unfold ropewayref04_Join.f
  repeat' first
      | (with_reducible exact ih0 _ _ _ _ _ _ _ _ _ _ _ _ _ _ _)
      | (with_reducible exact ih1 _ _ _ _ _ _ _ _ _ _ _ _ _ _ _ _ _ _)
      | (with_reducible exact ropewayref04_Has.mono _ _ _ _)
      | (with_reducible exact ropewayref04_set.mono _ _ _ _ _ _ _ _ _ _ _ _ _)
      | (with_reducible exact LeO.refl _)
      | (with_reducible exact LeO.none _)
      | (with_reducible refine LeO.ite ?_ ?_)
      | (with_reducible refine LeO.bind ?_ (fun _ => ?_))
      | exact ih0 _ _ _ _ _ _ _ _ _ _ _ _ _ _ _
      | exact ih1 _ _ _ _ _ _ _ _ _ _ _ _ _ _ _ _ _ _
      | exact ropewayref04_Has.mono _ _ _ _
      | exact ropewayref04_set.mono _ _ _ _ _ _ _ _ _ _ _ _ _
      | exact LeO.none _
      | refine LeO.ite ?_ ?_
      | refine LeO.bind ?_ (fun _ => ?_)
set_option maxHeartbeats 8000000 in
set_option maxRecDepth 100000 in
theorem ropewayref04_Join.calls (k : Nat) (A0 : Option Addr) (c0 : Nat) (l0 : List (S38)) (r1 : Int) (r2 : Int) (w : World) (hr0 : Kd.C k38 w A0 l0.length l0) (hc0 : l0.length ≤ c0) (h : ropewayref04_Join.f k l0 = some (r1, r2)) :
    Calls Try.prog 35 #[.slice A0 l0.length c0] w fun e w' => e = .returned (.agg #[.int .i64 r1, .int .i64 r2]) ∧ Below w.heap.size w w' := by
  have hu38 := Try.underlying38
  have hu41 := Try.underlying41
  have HR0 := Aside0.mk hr0
  have HC0 := Aside0.mk hc0
  clear hr0 hc0
  have HB := Aside0.mk (Below.refl w.heap.size w)
  have H : (ropewayref04_Join.l0 k l0 (l0.length : Int) 0 false false false false false false false false false false false false) = some (r1, r2) := h
  clear h
  have H' := Aside0.mk H
  clear H
  go_enter Try.func35, Try.ntmps35
  go_wp2_with (first | ((with_reducible refine gate_dst (N := 2) rfl ?_); refine box_event ?hg (N := 2) ?hd (cs := #[.int .i64 0, .int .i64 0]) (t := 38) ?hr ?_; (case hd => rfl); (case hg => rfl); (case hr => first | (go_simp; done) | (go_simp; rfl)); intro gb146 hg w2 hbox hb; have n0_ := Aside0.mk (below_step (by repeat (first | (with_reducible first | exact HB.out | apply below_alloc | apply pw_below_drewN | apply below_drew1) | exact HB.out)) hb); have n1_ := Aside0.mk (hbox); have n2_ := Aside0.mk ((by rw [hg]; exact (below_size (by repeat (first | (with_reducible first | exact HB.out | apply below_alloc | apply pw_below_drewN | apply below_drew1) | exact HB.out))) : w.heap.size ≤ gb146)); have n3_ := Aside0.mk ((by rw [hg]; exact (below_size (by repeat (first | (with_reducible first | exact HB.out | apply below_alloc | apply pw_below_drewN | apply below_drew1) | exact HB.out))) : w.heap.size ≤ gb146)); clear HB; have HB := n0_; have BK146 := n1_; have GW146 := n2_; have GE146 := n3_; clear n0_ n1_ n2_ n3_; clear hb hbox hg) | ((with_reducible refine gate_dst (N := 3) rfl ?_); refine box_event ?hg (N := 3) ?hd (cs := #[.bool false, .bool false, .bool false, .bool false, .bool false, .bool false]) (t := 41) ?hr ?_; (case hd => rfl); (case hg => rfl); (case hr => first | (go_simp; done) | (go_simp; rfl)); intro gb147 hg w3 hbox hb; have n0_ := Aside0.mk (blk_below (g := gb146) (o := .cells #[.int .i64 0, .int .i64 0] 38 (0, 0)) (by (with_reducible repeat (first | refine blk_drewN ?_ _ | refine blk_drew ?_ | refine blk_alloc ?_ _)); exact BK146.out) hb); have n1_ := Aside0.mk (below_step (by repeat (first | (with_reducible first | exact HB.out | apply below_alloc | apply pw_below_drewN | apply below_drew1 | refine below_set ?_ GE146.out) | exact HB.out)) hb); have n2_ := Aside0.mk (hbox); have n3_ := Aside0.mk ((by rw [hg]; exact (below_size (by repeat (first | (with_reducible first | exact HB.out | apply below_alloc | apply pw_below_drewN | apply below_drew1 | refine below_set ?_ GE146.out) | exact HB.out))) : w.heap.size ≤ gb147)); have n4_ := Aside0.mk ((by rw [hg]; exact (below_size (by repeat (first | (with_reducible first | exact HB.out | apply below_alloc | apply pw_below_drewN | apply below_drew1 | refine below_set ?_ GE146.out) | exact HB.out))) : w.heap.size ≤ gb147)); have n5_ := Aside0.mk ((by rw [hg]; exact Nat.ne_of_lt (blk_lt (g := gb146) (o := .cells #[.int .i64 0, .int .i64 0] 38 (0, 0)) (by (with_reducible repeat (first | refine blk_drewN ?_ _ | refine blk_drew ?_ | refine blk_alloc ?_ _)); exact BK146.out)) : gb146 ≠ gb147)); have n6_ := Aside0.mk ((by rw [hg]; exact Nat.ne_of_gt (blk_lt (g := gb146) (o := .cells #[.int .i64 0, .int .i64 0] 38 (0, 0)) (by (with_reducible repeat (first | refine blk_drewN ?_ _ | refine blk_drew ?_ | refine blk_alloc ?_ _)); exact BK146.out)) : gb147 ≠ gb146)); clear BK146; clear HB; have BK146 := n0_; have HB := n1_; have BK147 := n2_; have GW147 := n3_; have GE147 := n4_; have NB146_147 := n5_; have NB147_146 := n6_; clear n0_ n1_ n2_ n3_ n4_ n5_ n6_; clear hb hbox hg) | ((with_reducible refine gate_dst (N := 4) rfl ?_); refine box_event ?hg (N := 4) ?hd (cs := #[.bool false, .bool false, .bool false, .bool false, .bool false, .bool false]) (t := 41) ?hr ?_; (case hd => rfl); (case hg => rfl); (case hr => first | (go_simp; done) | (go_simp; rfl)); intro gb148 hg w4 hbox hb; have n0_ := Aside0.mk (blk_below (g := gb146) (o := .cells #[.int .i64 0, .int .i64 0] 38 (0, 0)) (by (with_reducible repeat (first | refine blk_drewN ?_ _ | refine blk_drew ?_ | refine blk_alloc ?_ _)); exact BK146.out) hb); have n1_ := Aside0.mk (blk_below (g := gb147) (o := .cells #[.bool false, .bool false, .bool false, .bool false, .bool false, .bool false] 41 (0, 0)) (by (with_reducible repeat (first | refine blk_drewN ?_ _ | refine blk_drew ?_ | refine blk_alloc ?_ _)); exact BK147.out) hb); have n2_ := Aside0.mk (below_step (by repeat (first | (with_reducible first | exact HB.out | apply below_alloc | apply pw_below_drewN | apply below_drew1 | refine below_set ?_ GE146.out | refine below_set ?_ GE147.out) | exact HB.out)) hb); have n3_ := Aside0.mk (hbox); have n4_ := Aside0.mk ((by rw [hg]; exact (below_size (by repeat (first | (with_reducible first | exact HB.out | apply below_alloc | apply pw_below_drewN | apply below_drew1 | refine below_set ?_ GE146.out | refine below_set ?_ GE147.out) | exact HB.out))) : w.heap.size ≤ gb148)); have n5_ := Aside0.mk ((by rw [hg]; exact (below_size (by repeat (first | (with_reducible first | exact HB.out | apply below_alloc | apply pw_below_drewN | apply below_drew1 | refine below_set ?_ GE146.out | refine below_set ?_ GE147.out) | exact HB.out))) : w.heap.size ≤ gb148)); have n6_ := Aside0.mk ((by rw [hg]; exact Nat.ne_of_lt (blk_lt (g := gb146) (o := .cells #[.int .i64 0, .int .i64 0] 38 (0, 0)) (by (with_reducible repeat (first | refine blk_drewN ?_ _ | refine blk_drew ?_ | refine blk_alloc ?_ _)); exact BK146.out)) : gb146 ≠ gb148)); have n7_ := Aside0.mk ((by rw [hg]; exact Nat.ne_of_gt (blk_lt (g := gb146) (o := .cells #[.int .i64 0, .int .i64 0] 38 (0, 0)) (by (with_reducible repeat (first | refine blk_drewN ?_ _ | refine blk_drew ?_ | refine blk_alloc ?_ _)); exact BK146.out)) : gb148 ≠ gb146)); have n8_ := Aside0.mk ((by rw [hg]; exact Nat.ne_of_lt (blk_lt (g := gb147) (o := .cells #[.bool false, .bool false, .bool false, .bool false, .bool false, .bool false] 41 (0, 0)) (by (with_reducible repeat (first | refine blk_drewN ?_ _ | refine blk_drew ?_ | refine blk_alloc ?_ _)); exact BK147.out)) : gb147 ≠ gb148)); have n9_ := Aside0.mk ((by rw [hg]; exact Nat.ne_of_gt (blk_lt (g := gb147) (o := .cells #[.bool false, .bool false, .bool false, .bool false, .bool false, .bool false] 41 (0, 0)) (by (with_reducible repeat (first | refine blk_drewN ?_ _ | refine blk_drew ?_ | refine blk_alloc ?_ _)); exact BK147.out)) : gb148 ≠ gb147)); clear BK146; clear BK147; clear HB; have BK146 := n0_; have BK147 := n1_; have HB := n2_; have BK148 := n3_; have GW148 := n4_; have GE148 := n5_; have NB146_148 := n6_; have NB148_146 := n7_; have NB147_148 := n8_; have NB148_147 := n9_; clear n0_ n1_ n2_ n3_ n4_ n5_ n6_ n7_ n8_ n9_; clear hb hbox hg; have hnb5 := NB147_146.out; have hnc5 := NB146_147.out; have hnb6 := NB147_148.out; have hnc6 := NB148_147.out; have hcz7_0 : w4.cell? ⟨gb147, 0, none⟩ = some (.bool false) := (blk_cell BK147.out 0).trans rfl; have hcz7_1 : w4.cell? ⟨gb147, 1, none⟩ = some (.bool false) := (blk_cell BK147.out 1).trans rfl; have hcz7_2 : w4.cell? ⟨gb147, 2, none⟩ = some (.bool false) := (blk_cell BK147.out 2).trans rfl; have hcz7_3 : w4.cell? ⟨gb147, 3, none⟩ = some (.bool false) := (blk_cell BK147.out 3).trans rfl; have hcz7_4 : w4.cell? ⟨gb147, 4, none⟩ = some (.bool false) := (blk_cell BK147.out 4).trans rfl; have hcz7_5 : w4.cell? ⟨gb147, 5, none⟩ = some (.bool false) := (blk_cell BK147.out 5).trans rfl; have hfz7_0 := blk_frozen BK147.out 0; have hfz7_1 := blk_frozen BK147.out 1; have hfz7_2 := blk_frozen BK147.out 2; have hfz7_3 := blk_frozen BK147.out 3; have hfz7_4 := blk_frozen BK147.out 4; have hfz7_5 := blk_frozen BK147.out 5; have hnb8 := NB148_146.out; have hnc8 := NB146_148.out; have hcz9_0 : w4.cell? ⟨gb148, 0, none⟩ = some (.bool false) := (blk_cell BK148.out 0).trans rfl; have hcz9_1 : w4.cell? ⟨gb148, 1, none⟩ = some (.bool false) := (blk_cell BK148.out 1).trans rfl; have hcz9_2 : w4.cell? ⟨gb148, 2, none⟩ = some (.bool false) := (blk_cell BK148.out 2).trans rfl; have hcz9_3 : w4.cell? ⟨gb148, 3, none⟩ = some (.bool false) := (blk_cell BK148.out 3).trans rfl; have hcz9_4 : w4.cell? ⟨gb148, 4, none⟩ = some (.bool false) := (blk_cell BK148.out 4).trans rfl; have hcz9_5 : w4.cell? ⟨gb148, 5, none⟩ = some (.bool false) := (blk_cell BK148.out 5).trans rfl; have hfz9_0 := blk_frozen BK148.out 0; have hfz9_1 := blk_frozen BK148.out 1; have hfz9_2 := blk_frozen BK148.out 2; have hfz9_3 := blk_frozen BK148.out 3; have hfz9_4 := blk_frozen BK148.out 4; have hfz9_5 := blk_frozen BK148.out 5))
  go_loopg [14] k (fun kq v14 w' => ∃ (x14_1 : Int) (x148000_1 : Bool) (x148001_1 : Bool) (x148002_1 : Bool) (x148003_1 : Bool) (x148004_1 : Bool) (x148005_1 : Bool) (x149000_1 : Bool) (x149001_1 : Bool) (x149002_1 : Bool) (x149003_1 : Bool) (x149004_1 : Bool) (x149005_1 : Bool), v14 = .int .i64 x14_1 ∧ Aside0 (ropewayref04_Join.l0 kq l0 (l0.length : Int) x14_1 x148000_1 x148001_1 x148002_1 x148003_1 x148004_1 x148005_1 x149000_1 x149001_1 x149002_1 x149003_1 x149004_1 x149005_1 = some (r1, r2)) ∧ Aside0 (kq ≤ k) ∧ Aside0 (w'.heap[gb146]? = some (.cells #[.int .i64 0, .int .i64 0] 38 (0, 0))) ∧ Aside0 (w'.heap[gb147]? = some (.cells #[.bool x148000_1, .bool x148001_1, .bool x148002_1, .bool x148003_1, .bool x148004_1, .bool x148005_1] 41 (0, 0))) ∧ Aside0 (w'.heap[gb148]? = some (.cells #[.bool x149000_1, .bool x149001_1, .bool x149002_1, .bool x149003_1, .bool x149004_1, .bool x149005_1] 41 (0, 0))) ∧ Aside0 (Below w.heap.size w w'))
  case atStart => exact ⟨(0), (false), (false), (false), (false), (false), (false), (false), (false), (false), (false), (false), (false), (by first | rfl | (simp; done) | (simp [*]; done) | (simp; grind)), H', ⟨Nat.le_refl _⟩, ⟨by (with_reducible repeat (first | refine blk_drewN ?_ _ | refine blk_drew ?_ | refine blk_alloc ?_ _)); refine blk_far ?_ NB146_148.out _; (with_reducible repeat (first | refine blk_drewN ?_ _ | refine blk_drew ?_ | refine blk_alloc ?_ _)); refine blk_far ?_ NB146_148.out _; (with_reducible repeat (first | refine blk_drewN ?_ _ | refine blk_drew ?_ | refine blk_alloc ?_ _)); refine blk_far ?_ NB146_148.out _; (with_reducible repeat (first | refine blk_drewN ?_ _ | refine blk_drew ?_ | refine blk_alloc ?_ _)); refine blk_far ?_ NB146_148.out _; (with_reducible repeat (first | refine blk_drewN ?_ _ | refine blk_drew ?_ | refine blk_alloc ?_ _)); refine blk_far ?_ NB146_148.out _; (with_reducible repeat (first | refine blk_drewN ?_ _ | refine blk_drew ?_ | refine blk_alloc ?_ _)); refine blk_far ?_ NB146_148.out _; (with_reducible repeat (first | refine blk_drewN ?_ _ | refine blk_drew ?_ | refine blk_alloc ?_ _)); refine blk_far ?_ NB146_147.out _; (with_reducible repeat (first | refine blk_drewN ?_ _ | refine blk_drew ?_ | refine blk_alloc ?_ _)); refine blk_far ?_ NB146_147.out _; (with_reducible repeat (first | refine blk_drewN ?_ _ | refine blk_drew ?_ | refine blk_alloc ?_ _)); refine blk_far ?_ NB146_147.out _; (with_reducible repeat (first | refine blk_drewN ?_ _ | refine blk_drew ?_ | refine blk_alloc ?_ _)); refine blk_far ?_ NB146_147.out _; (with_reducible repeat (first | refine blk_drewN ?_ _ | refine blk_drew ?_ | refine blk_alloc ?_ _)); refine blk_far ?_ NB146_147.out _; (with_reducible repeat (first | refine blk_drewN ?_ _ | refine blk_drew ?_ | refine blk_alloc ?_ _)); refine blk_far ?_ NB146_147.out _; (with_reducible repeat (first | refine blk_drewN ?_ _ | refine blk_drew ?_ | refine blk_alloc ?_ _)); exact BK146.out⟩, ⟨by (with_reducible repeat (first | refine blk_drewN ?_ _ | refine blk_drew ?_ | refine blk_alloc ?_ _)); refine blk_far ?_ NB147_148.out _; (with_reducible repeat (first | refine blk_drewN ?_ _ | refine blk_drew ?_ | refine blk_alloc ?_ _)); refine blk_far ?_ NB147_148.out _; (with_reducible repeat (first | refine blk_drewN ?_ _ | refine blk_drew ?_ | refine blk_alloc ?_ _)); refine blk_far ?_ NB147_148.out _; (with_reducible repeat (first | refine blk_drewN ?_ _ | refine blk_drew ?_ | refine blk_alloc ?_ _)); refine blk_far ?_ NB147_148.out _; (with_reducible repeat (first | refine blk_drewN ?_ _ | refine blk_drew ?_ | refine blk_alloc ?_ _)); refine blk_far ?_ NB147_148.out _; (with_reducible repeat (first | refine blk_drewN ?_ _ | refine blk_drew ?_ | refine blk_alloc ?_ _)); refine blk_far ?_ NB147_148.out _; (with_reducible repeat (first | refine blk_drewN ?_ _ | refine blk_drew ?_ | refine blk_alloc ?_ _)); refine blk_put (cs := #[.bool false, .bool false, .bool false, .bool false, .bool false, .bool false]) ?_ 5 _ rfl; (with_reducible repeat (first | refine blk_drewN ?_ _ | refine blk_drew ?_ | refine blk_alloc ?_ _)); refine blk_put (cs := #[.bool false, .bool false, .bool false, .bool false, .bool false, .bool false]) ?_ 4 _ rfl; (with_reducible repeat (first | refine blk_drewN ?_ _ | refine blk_drew ?_ | refine blk_alloc ?_ _)); refine blk_put (cs := #[.bool false, .bool false, .bool false, .bool false, .bool false, .bool false]) ?_ 3 _ rfl; (with_reducible repeat (first | refine blk_drewN ?_ _ | refine blk_drew ?_ | refine blk_alloc ?_ _)); refine blk_put (cs := #[.bool false, .bool false, .bool false, .bool false, .bool false, .bool false]) ?_ 2 _ rfl; (with_reducible repeat (first | refine blk_drewN ?_ _ | refine blk_drew ?_ | refine blk_alloc ?_ _)); refine blk_put (cs := #[.bool false, .bool false, .bool false, .bool false, .bool false, .bool false]) ?_ 1 _ rfl; (with_reducible repeat (first | refine blk_drewN ?_ _ | refine blk_drew ?_ | refine blk_alloc ?_ _)); refine blk_put (cs := #[.bool false, .bool false, .bool false, .bool false, .bool false, .bool false]) ?_ 0 _ rfl; (with_reducible repeat (first | refine blk_drewN ?_ _ | refine blk_drew ?_ | refine blk_alloc ?_ _)); exact BK147.out⟩, ⟨by (with_reducible repeat (first | refine blk_drewN ?_ _ | refine blk_drew ?_ | refine blk_alloc ?_ _)); refine blk_put (cs := #[.bool false, .bool false, .bool false, .bool false, .bool false, .bool false]) ?_ 5 _ rfl; (with_reducible repeat (first | refine blk_drewN ?_ _ | refine blk_drew ?_ | refine blk_alloc ?_ _)); refine blk_put (cs := #[.bool false, .bool false, .bool false, .bool false, .bool false, .bool false]) ?_ 4 _ rfl; (with_reducible repeat (first | refine blk_drewN ?_ _ | refine blk_drew ?_ | refine blk_alloc ?_ _)); refine blk_put (cs := #[.bool false, .bool false, .bool false, .bool false, .bool false, .bool false]) ?_ 3 _ rfl; (with_reducible repeat (first | refine blk_drewN ?_ _ | refine blk_drew ?_ | refine blk_alloc ?_ _)); refine blk_put (cs := #[.bool false, .bool false, .bool false, .bool false, .bool false, .bool false]) ?_ 2 _ rfl; (with_reducible repeat (first | refine blk_drewN ?_ _ | refine blk_drew ?_ | refine blk_alloc ?_ _)); refine blk_put (cs := #[.bool false, .bool false, .bool false, .bool false, .bool false, .bool false]) ?_ 1 _ rfl; (with_reducible repeat (first | refine blk_drewN ?_ _ | refine blk_drew ?_ | refine blk_alloc ?_ _)); refine blk_put (cs := #[.bool false, .bool false, .bool false, .bool false, .bool false, .bool false]) ?_ 0 _ rfl; (with_reducible repeat (first | refine blk_drewN ?_ _ | refine blk_drew ?_ | refine blk_alloc ?_ _)); refine blk_far ?_ NB148_147.out _; (with_reducible repeat (first | refine blk_drewN ?_ _ | refine blk_drew ?_ | refine blk_alloc ?_ _)); refine blk_far ?_ NB148_147.out _; (with_reducible repeat (first | refine blk_drewN ?_ _ | refine blk_drew ?_ | refine blk_alloc ?_ _)); refine blk_far ?_ NB148_147.out _; (with_reducible repeat (first | refine blk_drewN ?_ _ | refine blk_drew ?_ | refine blk_alloc ?_ _)); refine blk_far ?_ NB148_147.out _; (with_reducible repeat (first | refine blk_drewN ?_ _ | refine blk_drew ?_ | refine blk_alloc ?_ _)); refine blk_far ?_ NB148_147.out _; (with_reducible repeat (first | refine blk_drewN ?_ _ | refine blk_drew ?_ | refine blk_alloc ?_ _)); refine blk_far ?_ NB148_147.out _; (with_reducible repeat (first | refine blk_drewN ?_ _ | refine blk_drew ?_ | refine blk_alloc ?_ _)); exact BK148.out⟩, ⟨by repeat (first | (with_reducible first | exact HB.out | apply below_alloc | apply pw_below_drewN | apply below_drew1 | refine below_set ?_ GE146.out | refine below_set ?_ GE147.out | refine below_set ?_ GE148.out) | exact HB.out)⟩⟩
  case round =>
    clear H'
    try clear p2
    try clear c3
    try clear c5
    try clear c6
    try clear c8
    try clear hcz7_0
    try clear hcz7_1
    try clear hcz7_2
    try clear hcz7_3
    try clear hcz7_4
    try clear hcz7_5
    try clear hcz9_0
    try clear hcz9_1
    try clear hcz9_2
    try clear hcz9_3
    try clear hcz9_4
    try clear hcz9_5
    try clear hfz7_0
    try clear hfz7_1
    try clear hfz7_2
    try clear hfz7_3
    try clear hfz7_4
    try clear hfz7_5
    try clear hfz9_0
    try clear hfz9_1
    try clear hfz9_2
    try clear hfz9_3
    try clear hfz9_4
    try clear hfz9_5
    obtain ⟨x14_1, x148000_1, x148001_1, x148002_1, x148003_1, x148004_1, x148005_1, x149000_1, x149001_1, x149002_1, x149003_1, x149004_1, x149005_1, rfl, HA, HK1, BK146, BK147, BK148, HB⟩ := hrel
    cases gk with
    | zero => exact absurd HA.out (by simp [ropewayref04_Join.l0])
    | succ k1 =>
      have H := HA.out
      clear HA
      simp only [ropewayref04_Join.l0] at H
      by_cases c10 : x14_1 < (l0.length : Int)
      · rw [if_pos c10] at H
        have c10b0 : decide (x14_1 < (l0.length : Int)) = true := decide_eq_true c10
        clear c10
        by_cases c11 : 0 ≤ x14_1
        · rw [if_pos c11] at H
          have c11b0 : decide (0 ≤ x14_1) = true := decide_eq_true c11
          clear c11
          by_cases c12 : x14_1 < (l0.length : Int)
          · rw [if_pos c12] at H
            have c12b0 : decide (x14_1 < (l0.length : Int)) = true := decide_eq_true c12
            clear c12
            have H' := Aside0.mk H
            clear H
            have p151 : 0 ≤ (x14_1 : Int) := of_decide_eq_true (by first | (with_reducible assumption) | assumption)
            have q151 : x14_1 < (l0.length : Int) := of_decide_eq_true (by first | (with_reducible assumption) | assumption)
            obtain ⟨ad151, e151, hx151_0, hx151_1⟩ := at_T38 HR0.out x14_1 p151 q151
            cases e151
            replace hx151_0 := (HB.out.cell (World.block_lt_of_cell? w _ hx151_0)).trans hx151_0
            replace hx151_1 := (HB.out.cell (World.block_lt_of_cell? w _ hx151_1)).trans hx151_1
            replace p151 := eq_true p151
            replace q151 := eq_true q151
            go_wp2_with (first | ((with_reducible refine gate_dst (N := 6) rfl ?_); refine box_event ?hg (N := 6) ?hd (cs := #[.int .i64 0, .int .i64 0]) (t := 38) ?hr ?_; (case hd => rfl); (case hg => rfl); (case hr => first | (go_simp; done) | (go_simp; rfl)); intro gb152 hg w13 hbox hb; have n0_ := Aside0.mk (blk_below (g := gb146) (o := .cells #[.int .i64 0, .int .i64 0] 38 (0, 0)) (by (with_reducible repeat (first | refine blk_drewN ?_ _ | refine blk_drew ?_ | refine blk_alloc ?_ _)); exact BK146.out) hb); have n1_ := Aside0.mk (blk_below (g := gb147) (o := .cells #[.bool x148000_1, .bool x148001_1, .bool x148002_1, .bool x148003_1, .bool x148004_1, .bool x148005_1] 41 (0, 0)) (by (with_reducible repeat (first | refine blk_drewN ?_ _ | refine blk_drew ?_ | refine blk_alloc ?_ _)); exact BK147.out) hb); have n2_ := Aside0.mk (blk_below (g := gb148) (o := .cells #[.bool x149000_1, .bool x149001_1, .bool x149002_1, .bool x149003_1, .bool x149004_1, .bool x149005_1] 41 (0, 0)) (by (with_reducible repeat (first | refine blk_drewN ?_ _ | refine blk_drew ?_ | refine blk_alloc ?_ _)); exact BK148.out) hb); have n3_ := Aside0.mk (below_step (by repeat (first | (with_reducible first | exact HB.out | apply below_alloc | apply pw_below_drewN | apply below_drew1 | refine below_set ?_ GE146.out | refine below_set ?_ GE147.out | refine below_set ?_ GE148.out) | exact HB.out)) hb); have n4_ := Aside0.mk (hbox); have n5_ := Aside0.mk ((by rw [hg]; exact (below_size (by repeat (first | (with_reducible first | exact HB.out | apply below_alloc | apply pw_below_drewN | apply below_drew1 | refine below_set ?_ GE146.out | refine below_set ?_ GE147.out | refine below_set ?_ GE148.out) | exact HB.out))) : w.heap.size ≤ gb152)); have n6_ := Aside0.mk ((by rw [hg]; exact (below_size (by repeat (first | (with_reducible first | exact HB.out | apply below_alloc | apply pw_below_drewN | apply below_drew1 | refine below_set ?_ GE146.out | refine below_set ?_ GE147.out | refine below_set ?_ GE148.out) | exact HB.out))) : w.heap.size ≤ gb152)); have n7_ := Aside0.mk ((by rw [hg]; exact Nat.ne_of_lt (blk_lt (g := gb146) (o := .cells #[.int .i64 0, .int .i64 0] 38 (0, 0)) (by (with_reducible repeat (first | refine blk_drewN ?_ _ | refine blk_drew ?_ | refine blk_alloc ?_ _)); exact BK146.out)) : gb146 ≠ gb152)); have n8_ := Aside0.mk ((by rw [hg]; exact Nat.ne_of_gt (blk_lt (g := gb146) (o := .cells #[.int .i64 0, .int .i64 0] 38 (0, 0)) (by (with_reducible repeat (first | refine blk_drewN ?_ _ | refine blk_drew ?_ | refine blk_alloc ?_ _)); exact BK146.out)) : gb152 ≠ gb146)); have n9_ := Aside0.mk ((by rw [hg]; exact Nat.ne_of_lt (blk_lt (g := gb147) (o := .cells #[.bool x148000_1, .bool x148001_1, .bool x148002_1, .bool x148003_1, .bool x148004_1, .bool x148005_1] 41 (0, 0)) (by (with_reducible repeat (first | refine blk_drewN ?_ _ | refine blk_drew ?_ | refine blk_alloc ?_ _)); exact BK147.out)) : gb147 ≠ gb152)); have n10_ := Aside0.mk ((by rw [hg]; exact Nat.ne_of_gt (blk_lt (g := gb147) (o := .cells #[.bool x148000_1, .bool x148001_1, .bool x148002_1, .bool x148003_1, .bool x148004_1, .bool x148005_1] 41 (0, 0)) (by (with_reducible repeat (first | refine blk_drewN ?_ _ | refine blk_drew ?_ | refine blk_alloc ?_ _)); exact BK147.out)) : gb152 ≠ gb147)); have n11_ := Aside0.mk ((by rw [hg]; exact Nat.ne_of_lt (blk_lt (g := gb148) (o := .cells #[.bool x149000_1, .bool x149001_1, .bool x149002_1, .bool x149003_1, .bool x149004_1, .bool x149005_1] 41 (0, 0)) (by (with_reducible repeat (first | refine blk_drewN ?_ _ | refine blk_drew ?_ | refine blk_alloc ?_ _)); exact BK148.out)) : gb148 ≠ gb152)); have n12_ := Aside0.mk ((by rw [hg]; exact Nat.ne_of_gt (blk_lt (g := gb148) (o := .cells #[.bool x149000_1, .bool x149001_1, .bool x149002_1, .bool x149003_1, .bool x149004_1, .bool x149005_1] 41 (0, 0)) (by (with_reducible repeat (first | refine blk_drewN ?_ _ | refine blk_drew ?_ | refine blk_alloc ?_ _)); exact BK148.out)) : gb152 ≠ gb148)); clear BK146; clear BK147; clear BK148; clear HB; have BK146 := n0_; have BK147 := n1_; have BK148 := n2_; have HB := n3_; have BK152 := n4_; have GW152 := n5_; have GE152 := n6_; have NB146_152 := n7_; have NB152_146 := n8_; have NB147_152 := n9_; have NB152_147 := n10_; have NB148_152 := n11_; have NB152_148 := n12_; clear n0_ n1_ n2_ n3_ n4_ n5_ n6_ n7_ n8_ n9_ n10_ n11_ n12_; clear hb hbox hg; have hnb14 := NB152_146.out; have hnc14 := NB146_152.out; have hnb15 := NB152_147.out; have hnc15 := NB147_152.out; have hnb16 := NB152_148.out; have hnc16 := NB148_152.out; have hcz17_0 : w13.cell? ⟨gb152, 0, none⟩ = some (.int .i64 0) := (blk_cell BK152.out 0).trans rfl; have hcz17_1 : w13.cell? ⟨gb152, 1, none⟩ = some (.int .i64 0) := (blk_cell BK152.out 1).trans rfl; have hfz17_0 := blk_frozen BK152.out 0; have hfz17_1 := blk_frozen BK152.out 1))
            go_loopg [7] k1 (fun kq v7 w' => ∃ (x7_2 : Int) (x148000_2 : Bool) (x148001_2 : Bool) (x148002_2 : Bool) (x148003_2 : Bool) (x148004_2 : Bool) (x148005_2 : Bool) (x149000_2 : Bool) (x149001_2 : Bool) (x149002_2 : Bool) (x149003_2 : Bool) (x149004_2 : Bool) (x149005_2 : Bool), v7 = .int .i64 x7_2 ∧ Aside0 (ropewayref04_Join.l1 kq x7_2 l0 (l0.length : Int) x14_1 x148000_2 x148001_2 x148002_2 x148003_2 x148004_2 x148005_2 x149000_2 x149001_2 x149002_2 x149003_2 x149004_2 x149005_2 ((rd_T38 l0 x14_1).f0) ((rd_T38 l0 x14_1).f1) = some (r1, r2)) ∧ Aside0 (kq ≤ k1) ∧ Aside0 (w'.heap[gb146]? = some (.cells #[.int .i64 0, .int .i64 0] 38 (0, 0))) ∧ Aside0 (w'.heap[gb147]? = some (.cells #[.bool x148000_2, .bool x148001_2, .bool x148002_2, .bool x148003_2, .bool x148004_2, .bool x148005_2] 41 (0, 0))) ∧ Aside0 (w'.heap[gb148]? = some (.cells #[.bool x149000_2, .bool x149001_2, .bool x149002_2, .bool x149003_2, .bool x149004_2, .bool x149005_2] 41 (0, 0))) ∧ Aside0 (w'.heap[gb152]? = some (.cells #[.int .i64 ((rd_T38 l0 x14_1).f0), .int .i64 ((rd_T38 l0 x14_1).f1)] 38 (0, 0))) ∧ Aside0 (Below w.heap.size w w'))
            case atStart => exact ⟨(0), (x148000_1), (x148001_1), (x148002_1), (x148003_1), (x148004_1), (x148005_1), (x149000_1), (x149001_1), (x149002_1), (x149003_1), (x149004_1), (x149005_1), (by first | rfl | (simp; done) | (simp [*]; done) | (simp; grind)), H', ⟨Nat.le_refl _⟩, ⟨by (with_reducible repeat (first | refine blk_drewN ?_ _ | refine blk_drew ?_ | refine blk_alloc ?_ _)); refine blk_far ?_ NB146_152.out _; (with_reducible repeat (first | refine blk_drewN ?_ _ | refine blk_drew ?_ | refine blk_alloc ?_ _)); refine blk_far ?_ NB146_152.out _; (with_reducible repeat (first | refine blk_drewN ?_ _ | refine blk_drew ?_ | refine blk_alloc ?_ _)); exact BK146.out⟩, ⟨by (with_reducible repeat (first | refine blk_drewN ?_ _ | refine blk_drew ?_ | refine blk_alloc ?_ _)); refine blk_far ?_ NB147_152.out _; (with_reducible repeat (first | refine blk_drewN ?_ _ | refine blk_drew ?_ | refine blk_alloc ?_ _)); refine blk_far ?_ NB147_152.out _; (with_reducible repeat (first | refine blk_drewN ?_ _ | refine blk_drew ?_ | refine blk_alloc ?_ _)); exact BK147.out⟩, ⟨by (with_reducible repeat (first | refine blk_drewN ?_ _ | refine blk_drew ?_ | refine blk_alloc ?_ _)); refine blk_far ?_ NB148_152.out _; (with_reducible repeat (first | refine blk_drewN ?_ _ | refine blk_drew ?_ | refine blk_alloc ?_ _)); refine blk_far ?_ NB148_152.out _; (with_reducible repeat (first | refine blk_drewN ?_ _ | refine blk_drew ?_ | refine blk_alloc ?_ _)); exact BK148.out⟩, ⟨by (with_reducible repeat (first | refine blk_drewN ?_ _ | refine blk_drew ?_ | refine blk_alloc ?_ _)); refine blk_put (cs := #[.int .i64 ((rd_T38 l0 x14_1).f0), .int .i64 0]) ?_ 1 _ rfl; (with_reducible repeat (first | refine blk_drewN ?_ _ | refine blk_drew ?_ | refine blk_alloc ?_ _)); refine blk_put (cs := #[.int .i64 0, .int .i64 0]) ?_ 0 _ rfl; (with_reducible repeat (first | refine blk_drewN ?_ _ | refine blk_drew ?_ | refine blk_alloc ?_ _)); exact BK152.out⟩, ⟨by repeat (first | (with_reducible first | exact HB.out | apply below_alloc | apply pw_below_drewN | apply below_drew1 | refine below_set ?_ GE146.out | refine below_set ?_ GE147.out | refine below_set ?_ GE148.out | refine below_set ?_ GE152.out) | exact HB.out)⟩⟩
            case round =>
              clear H'
              try clear c1
              try clear p1
              try clear q1
              try clear hx1
              try clear p2
              try clear c3
              try clear c5
              try clear c6
              try clear c8
              try clear c10
              try clear c10b0
              try clear c11
              try clear c11b0
              try clear c12
              try clear c12b0
              try clear c14
              try clear c15
              try clear p15
              try clear q15
              try clear hx15
              try clear c16
              try clear hcz17_0
              try clear hcz17_1
              try clear hcz7_0
              try clear hcz7_1
              try clear hcz7_2
              try clear hcz7_3
              try clear hcz7_4
              try clear hcz7_5
              try clear hcz9_0
              try clear hcz9_1
              try clear hcz9_2
              try clear hcz9_3
              try clear hcz9_4
              try clear hcz9_5
              try clear hfz17_0
              try clear hfz17_1
              try clear hfz7_0
              try clear hfz7_1
              try clear hfz7_2
              try clear hfz7_3
              try clear hfz7_4
              try clear hfz7_5
              try clear hfz9_0
              try clear hfz9_1
              try clear hfz9_2
              try clear hfz9_3
              try clear hfz9_4
              try clear hfz9_5
              try clear hx151_0
              try clear hx151_1
              try clear p151
              try clear p2
              try clear q151
              obtain ⟨x7_2, x148000_2, x148001_2, x148002_2, x148003_2, x148004_2, x148005_2, x149000_2, x149001_2, x149002_2, x149003_2, x149004_2, x149005_2, rfl, HA, HK2, BK146, BK147, BK148, BK152, HB⟩ := hrel
              cases gk with
              | zero => exact absurd HA.out (by simp [ropewayref04_Join.l1])
              | succ k2 =>
                have H := HA.out
                clear HA
                simp only [ropewayref04_Join.l1] at H
                by_cases c18 : x7_2 < 6
                · rw [if_pos c18] at H
                  have c18b0 : decide (x7_2 < 6) = true := decide_eq_true c18
                  clear c18
                  replace H := Option.bind_eq_some_iff.mp H
                  obtain ⟨⟨t153, t154⟩, A190, H⟩ := H
                  replace H : (if 0 ≤ x7_2 then (if rdOf false [x148000_2, x148001_2, x148002_2, x148003_2, x148004_2, x148005_2] x7_2 = true then (if rdOf false [x149000_2, x149001_2, x149002_2, x149003_2, x149004_2, x149005_2] x7_2 = true then (ropewayref04_Join.l1 k2 (wrap64 (x7_2 + 1)) l0 (l0.length : Int) x14_1 (stA x7_2 0 true x148000_2) (stA x7_2 1 true x148001_2) (stA x7_2 2 true x148002_2) (stA x7_2 3 true x148003_2) (stA x7_2 4 true x148004_2) (stA x7_2 5 true x148005_2) (stA x7_2 0 true x149000_2) (stA x7_2 1 true x149001_2) (stA x7_2 2 true x149002_2) (stA x7_2 3 true x149003_2) (stA x7_2 4 true x149004_2) (stA x7_2 5 true x149005_2) ((rd_T38 l0 x14_1).f0) ((rd_T38 l0 x14_1).f1)) else (ropewayref04_Join.l1 k2 (wrap64 (x7_2 + 1)) l0 (l0.length : Int) x14_1 (stA x7_2 0 true x148000_2) (stA x7_2 1 true x148001_2) (stA x7_2 2 true x148002_2) (stA x7_2 3 true x148003_2) (stA x7_2 4 true x148004_2) (stA x7_2 5 true x148005_2) (stA x7_2 0 t154 x149000_2) (stA x7_2 1 t154 x149001_2) (stA x7_2 2 t154 x149002_2) (stA x7_2 3 t154 x149003_2) (stA x7_2 4 t154 x149004_2) (stA x7_2 5 t154 x149005_2) ((rd_T38 l0 x14_1).f0) ((rd_T38 l0 x14_1).f1))) else (if rdOf false [x149000_2, x149001_2, x149002_2, x149003_2, x149004_2, x149005_2] x7_2 = true then (ropewayref04_Join.l1 k2 (wrap64 (x7_2 + 1)) l0 (l0.length : Int) x14_1 (stA x7_2 0 t153 x148000_2) (stA x7_2 1 t153 x148001_2) (stA x7_2 2 t153 x148002_2) (stA x7_2 3 t153 x148003_2) (stA x7_2 4 t153 x148004_2) (stA x7_2 5 t153 x148005_2) (stA x7_2 0 true x149000_2) (stA x7_2 1 true x149001_2) (stA x7_2 2 true x149002_2) (stA x7_2 3 true x149003_2) (stA x7_2 4 true x149004_2) (stA x7_2 5 true x149005_2) ((rd_T38 l0 x14_1).f0) ((rd_T38 l0 x14_1).f1)) else (ropewayref04_Join.l1 k2 (wrap64 (x7_2 + 1)) l0 (l0.length : Int) x14_1 (stA x7_2 0 t153 x148000_2) (stA x7_2 1 t153 x148001_2) (stA x7_2 2 t153 x148002_2) (stA x7_2 3 t153 x148003_2) (stA x7_2 4 t153 x148004_2) (stA x7_2 5 t153 x148005_2) (stA x7_2 0 t154 x149000_2) (stA x7_2 1 t154 x149001_2) (stA x7_2 2 t154 x149002_2) (stA x7_2 3 t154 x149003_2) (stA x7_2 4 t154 x149004_2) (stA x7_2 5 t154 x149005_2) ((rd_T38 l0 x14_1).f0) ((rd_T38 l0 x14_1).f1)))) else (none)) = some (r1, r2) := H
                  have A19 := Aside0.mk A190
                  clear A190
                  by_cases c20 : 0 ≤ x7_2
                  · rw [if_pos c20] at H
                    have c20b0 : decide (0 ≤ x7_2) = true := decide_eq_true c20
                    clear c20
                    obtain ⟨bq21, hbq21⟩ : ∃ b_ : Bool, b_ = (rdOf false [x148000_2, x148001_2, x148002_2, x148003_2, x148004_2, x148005_2] x7_2) := ⟨_, rfl⟩
                    replace H : (if bq21 = true then (if rdOf false [x149000_2, x149001_2, x149002_2, x149003_2, x149004_2, x149005_2] x7_2 = true then (ropewayref04_Join.l1 k2 (wrap64 (x7_2 + 1)) l0 (l0.length : Int) x14_1 (stA x7_2 0 true x148000_2) (stA x7_2 1 true x148001_2) (stA x7_2 2 true x148002_2) (stA x7_2 3 true x148003_2) (stA x7_2 4 true x148004_2) (stA x7_2 5 true x148005_2) (stA x7_2 0 true x149000_2) (stA x7_2 1 true x149001_2) (stA x7_2 2 true x149002_2) (stA x7_2 3 true x149003_2) (stA x7_2 4 true x149004_2) (stA x7_2 5 true x149005_2) ((rd_T38 l0 x14_1).f0) ((rd_T38 l0 x14_1).f1)) else (ropewayref04_Join.l1 k2 (wrap64 (x7_2 + 1)) l0 (l0.length : Int) x14_1 (stA x7_2 0 true x148000_2) (stA x7_2 1 true x148001_2) (stA x7_2 2 true x148002_2) (stA x7_2 3 true x148003_2) (stA x7_2 4 true x148004_2) (stA x7_2 5 true x148005_2) (stA x7_2 0 t154 x149000_2) (stA x7_2 1 t154 x149001_2) (stA x7_2 2 t154 x149002_2) (stA x7_2 3 t154 x149003_2) (stA x7_2 4 t154 x149004_2) (stA x7_2 5 t154 x149005_2) ((rd_T38 l0 x14_1).f0) ((rd_T38 l0 x14_1).f1))) else (if rdOf false [x149000_2, x149001_2, x149002_2, x149003_2, x149004_2, x149005_2] x7_2 = true then (ropewayref04_Join.l1 k2 (wrap64 (x7_2 + 1)) l0 (l0.length : Int) x14_1 (stA x7_2 0 t153 x148000_2) (stA x7_2 1 t153 x148001_2) (stA x7_2 2 t153 x148002_2) (stA x7_2 3 t153 x148003_2) (stA x7_2 4 t153 x148004_2) (stA x7_2 5 t153 x148005_2) (stA x7_2 0 true x149000_2) (stA x7_2 1 true x149001_2) (stA x7_2 2 true x149002_2) (stA x7_2 3 true x149003_2) (stA x7_2 4 true x149004_2) (stA x7_2 5 true x149005_2) ((rd_T38 l0 x14_1).f0) ((rd_T38 l0 x14_1).f1)) else (ropewayref04_Join.l1 k2 (wrap64 (x7_2 + 1)) l0 (l0.length : Int) x14_1 (stA x7_2 0 t153 x148000_2) (stA x7_2 1 t153 x148001_2) (stA x7_2 2 t153 x148002_2) (stA x7_2 3 t153 x148003_2) (stA x7_2 4 t153 x148004_2) (stA x7_2 5 t153 x148005_2) (stA x7_2 0 t154 x149000_2) (stA x7_2 1 t154 x149001_2) (stA x7_2 2 t154 x149002_2) (stA x7_2 3 t154 x149003_2) (stA x7_2 4 t154 x149004_2) (stA x7_2 5 t154 x149005_2) ((rd_T38 l0 x14_1).f0) ((rd_T38 l0 x14_1).f1)))) = some (r1, r2) := by rw [← hbq21] at H; exact H
                    have Nbq21 := Aside0.mk hbq21
                    clear hbq21
                    by_cases c22 : bq21 = true
                    · subst c22
                      have H1 : (if rdOf false [x149000_2, x149001_2, x149002_2, x149003_2, x149004_2, x149005_2] x7_2 = true then (ropewayref04_Join.l1 k2 (wrap64 (x7_2 + 1)) l0 (l0.length : Int) x14_1 (stA x7_2 0 true x148000_2) (stA x7_2 1 true x148001_2) (stA x7_2 2 true x148002_2) (stA x7_2 3 true x148003_2) (stA x7_2 4 true x148004_2) (stA x7_2 5 true x148005_2) (stA x7_2 0 true x149000_2) (stA x7_2 1 true x149001_2) (stA x7_2 2 true x149002_2) (stA x7_2 3 true x149003_2) (stA x7_2 4 true x149004_2) (stA x7_2 5 true x149005_2) ((rd_T38 l0 x14_1).f0) ((rd_T38 l0 x14_1).f1)) else (ropewayref04_Join.l1 k2 (wrap64 (x7_2 + 1)) l0 (l0.length : Int) x14_1 (stA x7_2 0 true x148000_2) (stA x7_2 1 true x148001_2) (stA x7_2 2 true x148002_2) (stA x7_2 3 true x148003_2) (stA x7_2 4 true x148004_2) (stA x7_2 5 true x148005_2) (stA x7_2 0 t154 x149000_2) (stA x7_2 1 t154 x149001_2) (stA x7_2 2 t154 x149002_2) (stA x7_2 3 t154 x149003_2) (stA x7_2 4 t154 x149004_2) (stA x7_2 5 t154 x149005_2) ((rd_T38 l0 x14_1).f0) ((rd_T38 l0 x14_1).f1))) = some (r1, r2) := by rw [if_pos rfl] at H; exact H
                      clear H
                      have H := H1
                      clear H1
                      obtain ⟨bq23, hbq23⟩ : ∃ b_ : Bool, b_ = (rdOf false [x149000_2, x149001_2, x149002_2, x149003_2, x149004_2, x149005_2] x7_2) := ⟨_, rfl⟩
                      replace H : (if bq23 = true then (ropewayref04_Join.l1 k2 (wrap64 (x7_2 + 1)) l0 (l0.length : Int) x14_1 (stA x7_2 0 true x148000_2) (stA x7_2 1 true x148001_2) (stA x7_2 2 true x148002_2) (stA x7_2 3 true x148003_2) (stA x7_2 4 true x148004_2) (stA x7_2 5 true x148005_2) (stA x7_2 0 true x149000_2) (stA x7_2 1 true x149001_2) (stA x7_2 2 true x149002_2) (stA x7_2 3 true x149003_2) (stA x7_2 4 true x149004_2) (stA x7_2 5 true x149005_2) ((rd_T38 l0 x14_1).f0) ((rd_T38 l0 x14_1).f1)) else (ropewayref04_Join.l1 k2 (wrap64 (x7_2 + 1)) l0 (l0.length : Int) x14_1 (stA x7_2 0 true x148000_2) (stA x7_2 1 true x148001_2) (stA x7_2 2 true x148002_2) (stA x7_2 3 true x148003_2) (stA x7_2 4 true x148004_2) (stA x7_2 5 true x148005_2) (stA x7_2 0 t154 x149000_2) (stA x7_2 1 t154 x149001_2) (stA x7_2 2 t154 x149002_2) (stA x7_2 3 t154 x149003_2) (stA x7_2 4 t154 x149004_2) (stA x7_2 5 t154 x149005_2) ((rd_T38 l0 x14_1).f0) ((rd_T38 l0 x14_1).f1))) = some (r1, r2) := by rw [← hbq23] at H; exact H
                      have Nbq23 := Aside0.mk hbq23
                      clear hbq23
                      by_cases c24 : bq23 = true
                      · subst c24
                        have H1 : (ropewayref04_Join.l1 k2 (wrap64 (x7_2 + 1)) l0 (l0.length : Int) x14_1 (stA x7_2 0 true x148000_2) (stA x7_2 1 true x148001_2) (stA x7_2 2 true x148002_2) (stA x7_2 3 true x148003_2) (stA x7_2 4 true x148004_2) (stA x7_2 5 true x148005_2) (stA x7_2 0 true x149000_2) (stA x7_2 1 true x149001_2) (stA x7_2 2 true x149002_2) (stA x7_2 3 true x149003_2) (stA x7_2 4 true x149004_2) (stA x7_2 5 true x149005_2) ((rd_T38 l0 x14_1).f0) ((rd_T38 l0 x14_1).f1)) = some (r1, r2) := by rw [if_pos rfl] at H; exact H
                        clear H
                        have H := H1
                        clear H1
                        have H' := Aside0.mk H
                        clear H
                        have hnb25 := NB152_146.out
                        have hnc25 := NB146_152.out
                        have hnb26 := NB152_147.out
                        have hnc26 := NB147_152.out
                        have hnb27 := NB152_148.out
                        have hnc27 := NB148_152.out
                        have hcz28_0 : wr.cell? ⟨gb152, 0, none⟩ = some (.int .i64 ((rd_T38 l0 x14_1).f0)) := (blk_cell BK152.out 0).trans rfl
                        have hcz28_1 : wr.cell? ⟨gb152, 1, none⟩ = some (.int .i64 ((rd_T38 l0 x14_1).f1)) := (blk_cell BK152.out 1).trans rfl
                        have hfz28_0 := blk_frozen BK152.out 0
                        have hfz28_1 := blk_frozen BK152.out 1
                        go_wp2_with (first | ((with_reducible refine gate_callee (f := 46) rfl ?_); refine goesL_ (some 25) rfl rfl Try.func46 (by kernel_rfl) rfl #[.agg #[.int .i64 ((rd_T38 l0 x14_1).f0), .int .i64 ((rd_T38 l0 x14_1).f1)], .int .i64 x7_2] rfl (by (try simp only [List.map_toArray, List.map_cons, List.map_nil]); first | done | rfl | (simp only [List.length_drop, List.length_take]; rfl)) ?_; (with_reducible refine (ropewayref04_Has.calls k2 ((rd_T38 l0 x14_1).f0) ((rd_T38 l0 x14_1).f1) x7_2 t153 t154 _ A19.out).mono ?_); rintro e w29 ⟨rfl, hb⟩; refine ⟨_, rfl, ?_⟩; have n0_ := Aside0.mk (blk_below (g := gb146) (o := .cells #[.int .i64 0, .int .i64 0] 38 (0, 0)) (by (with_reducible repeat (first | refine blk_drewN ?_ _ | refine blk_drew ?_ | refine blk_alloc ?_ _)); exact BK146.out) hb); have n1_ := Aside0.mk (blk_below (g := gb147) (o := .cells #[.bool x148000_2, .bool x148001_2, .bool x148002_2, .bool x148003_2, .bool x148004_2, .bool x148005_2] 41 (0, 0)) (by (with_reducible repeat (first | refine blk_drewN ?_ _ | refine blk_drew ?_ | refine blk_alloc ?_ _)); exact BK147.out) hb); have n2_ := Aside0.mk (blk_below (g := gb148) (o := .cells #[.bool x149000_2, .bool x149001_2, .bool x149002_2, .bool x149003_2, .bool x149004_2, .bool x149005_2] 41 (0, 0)) (by (with_reducible repeat (first | refine blk_drewN ?_ _ | refine blk_drew ?_ | refine blk_alloc ?_ _)); exact BK148.out) hb); have n3_ := Aside0.mk (blk_below (g := gb152) (o := .cells #[.int .i64 ((rd_T38 l0 x14_1).f0), .int .i64 ((rd_T38 l0 x14_1).f1)] 38 (0, 0)) (by (with_reducible repeat (first | refine blk_drewN ?_ _ | refine blk_drew ?_ | refine blk_alloc ?_ _)); exact BK152.out) hb); have n4_ := Aside0.mk (below_step (by repeat (first | (with_reducible first | exact HB.out | apply below_alloc | apply pw_below_drewN | apply below_drew1 | refine below_set ?_ GE146.out | refine below_set ?_ GE147.out | refine below_set ?_ GE148.out | refine below_set ?_ GE152.out) | exact HB.out)) hb); clear BK146; clear BK147; clear BK148; clear BK152; clear HB; have BK146 := n0_; have BK147 := n1_; have BK148 := n2_; have BK152 := n3_; have HB := n4_; clear n0_ n1_ n2_ n3_ n4_; (try clear hb); (try clear hb2); (try clear hk); (try clear hi); have hnb30 := NB147_146.out; have hnc30 := NB146_147.out; have hnb31 := NB147_148.out; have hnc31 := NB148_147.out; have pdz32 : 0 ≤ (x7_2 : Int) := (of_decide_eq_true (by first | (with_reducible assumption) | assumption)); have qdz32 : (x7_2 : Int) < 6 := (of_decide_eq_true (by first | (with_reducible assumption) | assumption)); have hcdz32 : w29.cell? ⟨gb147, (x7_2 : Int).toNat, none⟩ = some (.bool (rdOf false [x148000_2, x148001_2, x148002_2, x148003_2, x148004_2, x148005_2] x7_2)) := arrC6 BK147.out x7_2 pdz32 qdz32; have hfdz32 := blk_frozen BK147.out (x7_2 : Int).toNat; (try rw [← Nbq21.out] at hcdz32); (try rw [← Nbq23.out] at hcdz32); replace pdz32 := eq_true pdz32; replace qdz32 := eq_true qdz32; have hnb33 := NB148_146.out; have hnc33 := NB146_148.out; have pdz34 : 0 ≤ (x7_2 : Int) := (of_decide_eq_true (by first | (with_reducible assumption) | assumption)); have qdz34 : (x7_2 : Int) < 6 := (of_decide_eq_true (by first | (with_reducible assumption) | assumption)); have hcdz34 : w29.cell? ⟨gb148, (x7_2 : Int).toNat, none⟩ = some (.bool (rdOf false [x149000_2, x149001_2, x149002_2, x149003_2, x149004_2, x149005_2] x7_2)) := arrC6 BK148.out x7_2 pdz34 qdz34; have hfdz34 := blk_frozen BK148.out (x7_2 : Int).toNat; (try rw [← Nbq21.out] at hcdz34); (try rw [← Nbq23.out] at hcdz34); replace pdz34 := eq_true pdz34; replace qdz34 := eq_true qdz34))
                        go_roundg k2
                        case measure => have := HK1.out; have := HK2.out; omega
                        case rel => exact ⟨(wrap64 (x7_2 + 1)), (stA x7_2 0 true x148000_2), (stA x7_2 1 true x148001_2), (stA x7_2 2 true x148002_2), (stA x7_2 3 true x148003_2), (stA x7_2 4 true x148004_2), (stA x7_2 5 true x148005_2), (stA x7_2 0 true x149000_2), (stA x7_2 1 true x149001_2), (stA x7_2 2 true x149002_2), (stA x7_2 3 true x149003_2), (stA x7_2 4 true x149004_2), (stA x7_2 5 true x149005_2), (by first | rfl | (simp; done) | (simp [*]; done) | (simp; grind)), H', ⟨by have := HK1.out; have := HK2.out; omega⟩, ⟨by (with_reducible repeat (first | refine blk_drewN ?_ _ | refine blk_drew ?_ | refine blk_alloc ?_ _)); refine blk_far ?_ NB146_148.out _; (with_reducible repeat (first | refine blk_drewN ?_ _ | refine blk_drew ?_ | refine blk_alloc ?_ _)); refine blk_far ?_ NB146_147.out _; (with_reducible repeat (first | refine blk_drewN ?_ _ | refine blk_drew ?_ | refine blk_alloc ?_ _)); exact BK146.out⟩, ⟨by (with_reducible repeat (first | refine blk_drewN ?_ _ | refine blk_drew ?_ | refine blk_alloc ?_ _)); refine blk_far ?_ NB147_148.out _; (with_reducible repeat (first | refine blk_drewN ?_ _ | refine blk_drew ?_ | refine blk_alloc ?_ _)); refine arrP6 ?_ x7_2 true (of_decide_eq_true (by first | (with_reducible assumption) | assumption)) (of_decide_eq_true (by first | (with_reducible assumption) | assumption)); (with_reducible repeat (first | refine blk_drewN ?_ _ | refine blk_drew ?_ | refine blk_alloc ?_ _)); exact BK147.out⟩, ⟨by (with_reducible repeat (first | refine blk_drewN ?_ _ | refine blk_drew ?_ | refine blk_alloc ?_ _)); refine arrP6 ?_ x7_2 true (of_decide_eq_true (by first | (with_reducible assumption) | assumption)) (of_decide_eq_true (by first | (with_reducible assumption) | assumption)); (with_reducible repeat (first | refine blk_drewN ?_ _ | refine blk_drew ?_ | refine blk_alloc ?_ _)); refine blk_far ?_ NB148_147.out _; (with_reducible repeat (first | refine blk_drewN ?_ _ | refine blk_drew ?_ | refine blk_alloc ?_ _)); exact BK148.out⟩, ⟨by (with_reducible repeat (first | refine blk_drewN ?_ _ | refine blk_drew ?_ | refine blk_alloc ?_ _)); refine blk_far ?_ NB152_148.out _; (with_reducible repeat (first | refine blk_drewN ?_ _ | refine blk_drew ?_ | refine blk_alloc ?_ _)); refine blk_far ?_ NB152_147.out _; (with_reducible repeat (first | refine blk_drewN ?_ _ | refine blk_drew ?_ | refine blk_alloc ?_ _)); exact BK152.out⟩, ⟨by repeat (first | (with_reducible first | exact HB.out | apply below_alloc | apply pw_below_drewN | apply below_drew1 | refine below_set ?_ GE146.out | refine below_set ?_ GE147.out | refine below_set ?_ GE148.out | refine below_set ?_ GE152.out) | exact HB.out)⟩⟩
                      · replace c24 := Bool.eq_false_iff.mpr c24
                        subst c24
                        have H1 : (ropewayref04_Join.l1 k2 (wrap64 (x7_2 + 1)) l0 (l0.length : Int) x14_1 (stA x7_2 0 true x148000_2) (stA x7_2 1 true x148001_2) (stA x7_2 2 true x148002_2) (stA x7_2 3 true x148003_2) (stA x7_2 4 true x148004_2) (stA x7_2 5 true x148005_2) (stA x7_2 0 t154 x149000_2) (stA x7_2 1 t154 x149001_2) (stA x7_2 2 t154 x149002_2) (stA x7_2 3 t154 x149003_2) (stA x7_2 4 t154 x149004_2) (stA x7_2 5 t154 x149005_2) ((rd_T38 l0 x14_1).f0) ((rd_T38 l0 x14_1).f1)) = some (r1, r2) := by rw [if_neg (show ¬ (false = true) by decide)] at H; exact H
                        clear H
                        have H := H1
                        clear H1
                        have H' := Aside0.mk H
                        clear H
                        have hnb35 := NB152_146.out
                        have hnc35 := NB146_152.out
                        have hnb36 := NB152_147.out
                        have hnc36 := NB147_152.out
                        have hnb37 := NB152_148.out
                        have hnc37 := NB148_152.out
                        have hcz38_0 : wr.cell? ⟨gb152, 0, none⟩ = some (.int .i64 ((rd_T38 l0 x14_1).f0)) := (blk_cell BK152.out 0).trans rfl
                        have hcz38_1 : wr.cell? ⟨gb152, 1, none⟩ = some (.int .i64 ((rd_T38 l0 x14_1).f1)) := (blk_cell BK152.out 1).trans rfl
                        have hfz38_0 := blk_frozen BK152.out 0
                        have hfz38_1 := blk_frozen BK152.out 1
                        go_wp2_with (first | ((with_reducible refine gate_callee (f := 46) rfl ?_); refine goesL_ (some 25) rfl rfl Try.func46 (by kernel_rfl) rfl #[.agg #[.int .i64 ((rd_T38 l0 x14_1).f0), .int .i64 ((rd_T38 l0 x14_1).f1)], .int .i64 x7_2] rfl (by (try simp only [List.map_toArray, List.map_cons, List.map_nil]); first | done | rfl | (simp only [List.length_drop, List.length_take]; rfl)) ?_; (with_reducible refine (ropewayref04_Has.calls k2 ((rd_T38 l0 x14_1).f0) ((rd_T38 l0 x14_1).f1) x7_2 t153 t154 _ A19.out).mono ?_); rintro e w39 ⟨rfl, hb⟩; refine ⟨_, rfl, ?_⟩; have n0_ := Aside0.mk (blk_below (g := gb146) (o := .cells #[.int .i64 0, .int .i64 0] 38 (0, 0)) (by (with_reducible repeat (first | refine blk_drewN ?_ _ | refine blk_drew ?_ | refine blk_alloc ?_ _)); exact BK146.out) hb); have n1_ := Aside0.mk (blk_below (g := gb147) (o := .cells #[.bool x148000_2, .bool x148001_2, .bool x148002_2, .bool x148003_2, .bool x148004_2, .bool x148005_2] 41 (0, 0)) (by (with_reducible repeat (first | refine blk_drewN ?_ _ | refine blk_drew ?_ | refine blk_alloc ?_ _)); exact BK147.out) hb); have n2_ := Aside0.mk (blk_below (g := gb148) (o := .cells #[.bool x149000_2, .bool x149001_2, .bool x149002_2, .bool x149003_2, .bool x149004_2, .bool x149005_2] 41 (0, 0)) (by (with_reducible repeat (first | refine blk_drewN ?_ _ | refine blk_drew ?_ | refine blk_alloc ?_ _)); exact BK148.out) hb); have n3_ := Aside0.mk (blk_below (g := gb152) (o := .cells #[.int .i64 ((rd_T38 l0 x14_1).f0), .int .i64 ((rd_T38 l0 x14_1).f1)] 38 (0, 0)) (by (with_reducible repeat (first | refine blk_drewN ?_ _ | refine blk_drew ?_ | refine blk_alloc ?_ _)); exact BK152.out) hb); have n4_ := Aside0.mk (below_step (by repeat (first | (with_reducible first | exact HB.out | apply below_alloc | apply pw_below_drewN | apply below_drew1 | refine below_set ?_ GE146.out | refine below_set ?_ GE147.out | refine below_set ?_ GE148.out | refine below_set ?_ GE152.out) | exact HB.out)) hb); clear BK146; clear BK147; clear BK148; clear BK152; clear HB; have BK146 := n0_; have BK147 := n1_; have BK148 := n2_; have BK152 := n3_; have HB := n4_; clear n0_ n1_ n2_ n3_ n4_; (try clear hb); (try clear hb2); (try clear hk); (try clear hi); have hnb40 := NB147_146.out; have hnc40 := NB146_147.out; have hnb41 := NB147_148.out; have hnc41 := NB148_147.out; have pdz42 : 0 ≤ (x7_2 : Int) := (of_decide_eq_true (by first | (with_reducible assumption) | assumption)); have qdz42 : (x7_2 : Int) < 6 := (of_decide_eq_true (by first | (with_reducible assumption) | assumption)); have hcdz42 : w39.cell? ⟨gb147, (x7_2 : Int).toNat, none⟩ = some (.bool (rdOf false [x148000_2, x148001_2, x148002_2, x148003_2, x148004_2, x148005_2] x7_2)) := arrC6 BK147.out x7_2 pdz42 qdz42; have hfdz42 := blk_frozen BK147.out (x7_2 : Int).toNat; (try rw [← Nbq21.out] at hcdz42); (try rw [← Nbq23.out] at hcdz42); replace pdz42 := eq_true pdz42; replace qdz42 := eq_true qdz42; have hnb43 := NB148_146.out; have hnc43 := NB146_148.out; have pdz44 : 0 ≤ (x7_2 : Int) := (of_decide_eq_true (by first | (with_reducible assumption) | assumption)); have qdz44 : (x7_2 : Int) < 6 := (of_decide_eq_true (by first | (with_reducible assumption) | assumption)); have hcdz44 : w39.cell? ⟨gb148, (x7_2 : Int).toNat, none⟩ = some (.bool (rdOf false [x149000_2, x149001_2, x149002_2, x149003_2, x149004_2, x149005_2] x7_2)) := arrC6 BK148.out x7_2 pdz44 qdz44; have hfdz44 := blk_frozen BK148.out (x7_2 : Int).toNat; (try rw [← Nbq21.out] at hcdz44); (try rw [← Nbq23.out] at hcdz44); replace pdz44 := eq_true pdz44; replace qdz44 := eq_true qdz44))
                        go_roundg k2
                        case measure => have := HK1.out; have := HK2.out; omega
                        case rel => exact ⟨(wrap64 (x7_2 + 1)), (stA x7_2 0 true x148000_2), (stA x7_2 1 true x148001_2), (stA x7_2 2 true x148002_2), (stA x7_2 3 true x148003_2), (stA x7_2 4 true x148004_2), (stA x7_2 5 true x148005_2), (stA x7_2 0 t154 x149000_2), (stA x7_2 1 t154 x149001_2), (stA x7_2 2 t154 x149002_2), (stA x7_2 3 t154 x149003_2), (stA x7_2 4 t154 x149004_2), (stA x7_2 5 t154 x149005_2), (by first | rfl | (simp; done) | (simp [*]; done) | (simp; grind)), H', ⟨by have := HK1.out; have := HK2.out; omega⟩, ⟨by (with_reducible repeat (first | refine blk_drewN ?_ _ | refine blk_drew ?_ | refine blk_alloc ?_ _)); refine blk_far ?_ NB146_148.out _; (with_reducible repeat (first | refine blk_drewN ?_ _ | refine blk_drew ?_ | refine blk_alloc ?_ _)); refine blk_far ?_ NB146_147.out _; (with_reducible repeat (first | refine blk_drewN ?_ _ | refine blk_drew ?_ | refine blk_alloc ?_ _)); exact BK146.out⟩, ⟨by (with_reducible repeat (first | refine blk_drewN ?_ _ | refine blk_drew ?_ | refine blk_alloc ?_ _)); refine blk_far ?_ NB147_148.out _; (with_reducible repeat (first | refine blk_drewN ?_ _ | refine blk_drew ?_ | refine blk_alloc ?_ _)); refine arrP6 ?_ x7_2 true (of_decide_eq_true (by first | (with_reducible assumption) | assumption)) (of_decide_eq_true (by first | (with_reducible assumption) | assumption)); (with_reducible repeat (first | refine blk_drewN ?_ _ | refine blk_drew ?_ | refine blk_alloc ?_ _)); exact BK147.out⟩, ⟨by (with_reducible repeat (first | refine blk_drewN ?_ _ | refine blk_drew ?_ | refine blk_alloc ?_ _)); refine arrP6 ?_ x7_2 t154 (of_decide_eq_true (by first | (with_reducible assumption) | assumption)) (of_decide_eq_true (by first | (with_reducible assumption) | assumption)); (with_reducible repeat (first | refine blk_drewN ?_ _ | refine blk_drew ?_ | refine blk_alloc ?_ _)); refine blk_far ?_ NB148_147.out _; (with_reducible repeat (first | refine blk_drewN ?_ _ | refine blk_drew ?_ | refine blk_alloc ?_ _)); exact BK148.out⟩, ⟨by (with_reducible repeat (first | refine blk_drewN ?_ _ | refine blk_drew ?_ | refine blk_alloc ?_ _)); refine blk_far ?_ NB152_148.out _; (with_reducible repeat (first | refine blk_drewN ?_ _ | refine blk_drew ?_ | refine blk_alloc ?_ _)); refine blk_far ?_ NB152_147.out _; (with_reducible repeat (first | refine blk_drewN ?_ _ | refine blk_drew ?_ | refine blk_alloc ?_ _)); exact BK152.out⟩, ⟨by repeat (first | (with_reducible first | exact HB.out | apply below_alloc | apply pw_below_drewN | apply below_drew1 | refine below_set ?_ GE146.out | refine below_set ?_ GE147.out | refine below_set ?_ GE148.out | refine below_set ?_ GE152.out) | exact HB.out)⟩⟩
                    · replace c22 := Bool.eq_false_iff.mpr c22
                      subst c22
                      have H1 : (if rdOf false [x149000_2, x149001_2, x149002_2, x149003_2, x149004_2, x149005_2] x7_2 = true then (ropewayref04_Join.l1 k2 (wrap64 (x7_2 + 1)) l0 (l0.length : Int) x14_1 (stA x7_2 0 t153 x148000_2) (stA x7_2 1 t153 x148001_2) (stA x7_2 2 t153 x148002_2) (stA x7_2 3 t153 x148003_2) (stA x7_2 4 t153 x148004_2) (stA x7_2 5 t153 x148005_2) (stA x7_2 0 true x149000_2) (stA x7_2 1 true x149001_2) (stA x7_2 2 true x149002_2) (stA x7_2 3 true x149003_2) (stA x7_2 4 true x149004_2) (stA x7_2 5 true x149005_2) ((rd_T38 l0 x14_1).f0) ((rd_T38 l0 x14_1).f1)) else (ropewayref04_Join.l1 k2 (wrap64 (x7_2 + 1)) l0 (l0.length : Int) x14_1 (stA x7_2 0 t153 x148000_2) (stA x7_2 1 t153 x148001_2) (stA x7_2 2 t153 x148002_2) (stA x7_2 3 t153 x148003_2) (stA x7_2 4 t153 x148004_2) (stA x7_2 5 t153 x148005_2) (stA x7_2 0 t154 x149000_2) (stA x7_2 1 t154 x149001_2) (stA x7_2 2 t154 x149002_2) (stA x7_2 3 t154 x149003_2) (stA x7_2 4 t154 x149004_2) (stA x7_2 5 t154 x149005_2) ((rd_T38 l0 x14_1).f0) ((rd_T38 l0 x14_1).f1))) = some (r1, r2) := by rw [if_neg (show ¬ (false = true) by decide)] at H; exact H
                      clear H
                      have H := H1
                      clear H1
                      obtain ⟨bq45, hbq45⟩ : ∃ b_ : Bool, b_ = (rdOf false [x149000_2, x149001_2, x149002_2, x149003_2, x149004_2, x149005_2] x7_2) := ⟨_, rfl⟩
                      replace H : (if bq45 = true then (ropewayref04_Join.l1 k2 (wrap64 (x7_2 + 1)) l0 (l0.length : Int) x14_1 (stA x7_2 0 t153 x148000_2) (stA x7_2 1 t153 x148001_2) (stA x7_2 2 t153 x148002_2) (stA x7_2 3 t153 x148003_2) (stA x7_2 4 t153 x148004_2) (stA x7_2 5 t153 x148005_2) (stA x7_2 0 true x149000_2) (stA x7_2 1 true x149001_2) (stA x7_2 2 true x149002_2) (stA x7_2 3 true x149003_2) (stA x7_2 4 true x149004_2) (stA x7_2 5 true x149005_2) ((rd_T38 l0 x14_1).f0) ((rd_T38 l0 x14_1).f1)) else (ropewayref04_Join.l1 k2 (wrap64 (x7_2 + 1)) l0 (l0.length : Int) x14_1 (stA x7_2 0 t153 x148000_2) (stA x7_2 1 t153 x148001_2) (stA x7_2 2 t153 x148002_2) (stA x7_2 3 t153 x148003_2) (stA x7_2 4 t153 x148004_2) (stA x7_2 5 t153 x148005_2) (stA x7_2 0 t154 x149000_2) (stA x7_2 1 t154 x149001_2) (stA x7_2 2 t154 x149002_2) (stA x7_2 3 t154 x149003_2) (stA x7_2 4 t154 x149004_2) (stA x7_2 5 t154 x149005_2) ((rd_T38 l0 x14_1).f0) ((rd_T38 l0 x14_1).f1))) = some (r1, r2) := by rw [← hbq45] at H; exact H
                      have Nbq45 := Aside0.mk hbq45
                      clear hbq45
                      by_cases c46 : bq45 = true
                      · subst c46
                        have H1 : (ropewayref04_Join.l1 k2 (wrap64 (x7_2 + 1)) l0 (l0.length : Int) x14_1 (stA x7_2 0 t153 x148000_2) (stA x7_2 1 t153 x148001_2) (stA x7_2 2 t153 x148002_2) (stA x7_2 3 t153 x148003_2) (stA x7_2 4 t153 x148004_2) (stA x7_2 5 t153 x148005_2) (stA x7_2 0 true x149000_2) (stA x7_2 1 true x149001_2) (stA x7_2 2 true x149002_2) (stA x7_2 3 true x149003_2) (stA x7_2 4 true x149004_2) (stA x7_2 5 true x149005_2) ((rd_T38 l0 x14_1).f0) ((rd_T38 l0 x14_1).f1)) = some (r1, r2) := by rw [if_pos rfl] at H; exact H
                        clear H
                        have H := H1
                        clear H1
                        have H' := Aside0.mk H
                        clear H
                        have hnb47 := NB152_146.out
                        have hnc47 := NB146_152.out
                        have hnb48 := NB152_147.out
                        have hnc48 := NB147_152.out
                        have hnb49 := NB152_148.out
                        have hnc49 := NB148_152.out
                        have hcz50_0 : wr.cell? ⟨gb152, 0, none⟩ = some (.int .i64 ((rd_T38 l0 x14_1).f0)) := (blk_cell BK152.out 0).trans rfl
                        have hcz50_1 : wr.cell? ⟨gb152, 1, none⟩ = some (.int .i64 ((rd_T38 l0 x14_1).f1)) := (blk_cell BK152.out 1).trans rfl
                        have hfz50_0 := blk_frozen BK152.out 0
                        have hfz50_1 := blk_frozen BK152.out 1
                        go_wp2_with (first | ((with_reducible refine gate_callee (f := 46) rfl ?_); refine goesL_ (some 25) rfl rfl Try.func46 (by kernel_rfl) rfl #[.agg #[.int .i64 ((rd_T38 l0 x14_1).f0), .int .i64 ((rd_T38 l0 x14_1).f1)], .int .i64 x7_2] rfl (by (try simp only [List.map_toArray, List.map_cons, List.map_nil]); first | done | rfl | (simp only [List.length_drop, List.length_take]; rfl)) ?_; (with_reducible refine (ropewayref04_Has.calls k2 ((rd_T38 l0 x14_1).f0) ((rd_T38 l0 x14_1).f1) x7_2 t153 t154 _ A19.out).mono ?_); rintro e w51 ⟨rfl, hb⟩; refine ⟨_, rfl, ?_⟩; have n0_ := Aside0.mk (blk_below (g := gb146) (o := .cells #[.int .i64 0, .int .i64 0] 38 (0, 0)) (by (with_reducible repeat (first | refine blk_drewN ?_ _ | refine blk_drew ?_ | refine blk_alloc ?_ _)); exact BK146.out) hb); have n1_ := Aside0.mk (blk_below (g := gb147) (o := .cells #[.bool x148000_2, .bool x148001_2, .bool x148002_2, .bool x148003_2, .bool x148004_2, .bool x148005_2] 41 (0, 0)) (by (with_reducible repeat (first | refine blk_drewN ?_ _ | refine blk_drew ?_ | refine blk_alloc ?_ _)); exact BK147.out) hb); have n2_ := Aside0.mk (blk_below (g := gb148) (o := .cells #[.bool x149000_2, .bool x149001_2, .bool x149002_2, .bool x149003_2, .bool x149004_2, .bool x149005_2] 41 (0, 0)) (by (with_reducible repeat (first | refine blk_drewN ?_ _ | refine blk_drew ?_ | refine blk_alloc ?_ _)); exact BK148.out) hb); have n3_ := Aside0.mk (blk_below (g := gb152) (o := .cells #[.int .i64 ((rd_T38 l0 x14_1).f0), .int .i64 ((rd_T38 l0 x14_1).f1)] 38 (0, 0)) (by (with_reducible repeat (first | refine blk_drewN ?_ _ | refine blk_drew ?_ | refine blk_alloc ?_ _)); exact BK152.out) hb); have n4_ := Aside0.mk (below_step (by repeat (first | (with_reducible first | exact HB.out | apply below_alloc | apply pw_below_drewN | apply below_drew1 | refine below_set ?_ GE146.out | refine below_set ?_ GE147.out | refine below_set ?_ GE148.out | refine below_set ?_ GE152.out) | exact HB.out)) hb); clear BK146; clear BK147; clear BK148; clear BK152; clear HB; have BK146 := n0_; have BK147 := n1_; have BK148 := n2_; have BK152 := n3_; have HB := n4_; clear n0_ n1_ n2_ n3_ n4_; (try clear hb); (try clear hb2); (try clear hk); (try clear hi); have hnb52 := NB147_146.out; have hnc52 := NB146_147.out; have hnb53 := NB147_148.out; have hnc53 := NB148_147.out; have pdz54 : 0 ≤ (x7_2 : Int) := (of_decide_eq_true (by first | (with_reducible assumption) | assumption)); have qdz54 : (x7_2 : Int) < 6 := (of_decide_eq_true (by first | (with_reducible assumption) | assumption)); have hcdz54 : w51.cell? ⟨gb147, (x7_2 : Int).toNat, none⟩ = some (.bool (rdOf false [x148000_2, x148001_2, x148002_2, x148003_2, x148004_2, x148005_2] x7_2)) := arrC6 BK147.out x7_2 pdz54 qdz54; have hfdz54 := blk_frozen BK147.out (x7_2 : Int).toNat; (try rw [← Nbq21.out] at hcdz54); (try rw [← Nbq45.out] at hcdz54); replace pdz54 := eq_true pdz54; replace qdz54 := eq_true qdz54; have hnb55 := NB148_146.out; have hnc55 := NB146_148.out; have pdz56 : 0 ≤ (x7_2 : Int) := (of_decide_eq_true (by first | (with_reducible assumption) | assumption)); have qdz56 : (x7_2 : Int) < 6 := (of_decide_eq_true (by first | (with_reducible assumption) | assumption)); have hcdz56 : w51.cell? ⟨gb148, (x7_2 : Int).toNat, none⟩ = some (.bool (rdOf false [x149000_2, x149001_2, x149002_2, x149003_2, x149004_2, x149005_2] x7_2)) := arrC6 BK148.out x7_2 pdz56 qdz56; have hfdz56 := blk_frozen BK148.out (x7_2 : Int).toNat; (try rw [← Nbq21.out] at hcdz56); (try rw [← Nbq45.out] at hcdz56); replace pdz56 := eq_true pdz56; replace qdz56 := eq_true qdz56))
                        go_roundg k2
                        case measure => have := HK1.out; have := HK2.out; omega
                        case rel => exact ⟨(wrap64 (x7_2 + 1)), (stA x7_2 0 t153 x148000_2), (stA x7_2 1 t153 x148001_2), (stA x7_2 2 t153 x148002_2), (stA x7_2 3 t153 x148003_2), (stA x7_2 4 t153 x148004_2), (stA x7_2 5 t153 x148005_2), (stA x7_2 0 true x149000_2), (stA x7_2 1 true x149001_2), (stA x7_2 2 true x149002_2), (stA x7_2 3 true x149003_2), (stA x7_2 4 true x149004_2), (stA x7_2 5 true x149005_2), (by first | rfl | (simp; done) | (simp [*]; done) | (simp; grind)), H', ⟨by have := HK1.out; have := HK2.out; omega⟩, ⟨by (with_reducible repeat (first | refine blk_drewN ?_ _ | refine blk_drew ?_ | refine blk_alloc ?_ _)); refine blk_far ?_ NB146_148.out _; (with_reducible repeat (first | refine blk_drewN ?_ _ | refine blk_drew ?_ | refine blk_alloc ?_ _)); refine blk_far ?_ NB146_147.out _; (with_reducible repeat (first | refine blk_drewN ?_ _ | refine blk_drew ?_ | refine blk_alloc ?_ _)); exact BK146.out⟩, ⟨by (with_reducible repeat (first | refine blk_drewN ?_ _ | refine blk_drew ?_ | refine blk_alloc ?_ _)); refine blk_far ?_ NB147_148.out _; (with_reducible repeat (first | refine blk_drewN ?_ _ | refine blk_drew ?_ | refine blk_alloc ?_ _)); refine arrP6 ?_ x7_2 t153 (of_decide_eq_true (by first | (with_reducible assumption) | assumption)) (of_decide_eq_true (by first | (with_reducible assumption) | assumption)); (with_reducible repeat (first | refine blk_drewN ?_ _ | refine blk_drew ?_ | refine blk_alloc ?_ _)); exact BK147.out⟩, ⟨by (with_reducible repeat (first | refine blk_drewN ?_ _ | refine blk_drew ?_ | refine blk_alloc ?_ _)); refine arrP6 ?_ x7_2 true (of_decide_eq_true (by first | (with_reducible assumption) | assumption)) (of_decide_eq_true (by first | (with_reducible assumption) | assumption)); (with_reducible repeat (first | refine blk_drewN ?_ _ | refine blk_drew ?_ | refine blk_alloc ?_ _)); refine blk_far ?_ NB148_147.out _; (with_reducible repeat (first | refine blk_drewN ?_ _ | refine blk_drew ?_ | refine blk_alloc ?_ _)); exact BK148.out⟩, ⟨by (with_reducible repeat (first | refine blk_drewN ?_ _ | refine blk_drew ?_ | refine blk_alloc ?_ _)); refine blk_far ?_ NB152_148.out _; (with_reducible repeat (first | refine blk_drewN ?_ _ | refine blk_drew ?_ | refine blk_alloc ?_ _)); refine blk_far ?_ NB152_147.out _; (with_reducible repeat (first | refine blk_drewN ?_ _ | refine blk_drew ?_ | refine blk_alloc ?_ _)); exact BK152.out⟩, ⟨by repeat (first | (with_reducible first | exact HB.out | apply below_alloc | apply pw_below_drewN | apply below_drew1 | refine below_set ?_ GE146.out | refine below_set ?_ GE147.out | refine below_set ?_ GE148.out | refine below_set ?_ GE152.out) | exact HB.out)⟩⟩
                      · replace c46 := Bool.eq_false_iff.mpr c46
                        subst c46
                        have H1 : (ropewayref04_Join.l1 k2 (wrap64 (x7_2 + 1)) l0 (l0.length : Int) x14_1 (stA x7_2 0 t153 x148000_2) (stA x7_2 1 t153 x148001_2) (stA x7_2 2 t153 x148002_2) (stA x7_2 3 t153 x148003_2) (stA x7_2 4 t153 x148004_2) (stA x7_2 5 t153 x148005_2) (stA x7_2 0 t154 x149000_2) (stA x7_2 1 t154 x149001_2) (stA x7_2 2 t154 x149002_2) (stA x7_2 3 t154 x149003_2) (stA x7_2 4 t154 x149004_2) (stA x7_2 5 t154 x149005_2) ((rd_T38 l0 x14_1).f0) ((rd_T38 l0 x14_1).f1)) = some (r1, r2) := by rw [if_neg (show ¬ (false = true) by decide)] at H; exact H
                        clear H
                        have H := H1
                        clear H1
                        have H' := Aside0.mk H
                        clear H
                        have hnb57 := NB152_146.out
                        have hnc57 := NB146_152.out
                        have hnb58 := NB152_147.out
                        have hnc58 := NB147_152.out
                        have hnb59 := NB152_148.out
                        have hnc59 := NB148_152.out
                        have hcz60_0 : wr.cell? ⟨gb152, 0, none⟩ = some (.int .i64 ((rd_T38 l0 x14_1).f0)) := (blk_cell BK152.out 0).trans rfl
                        have hcz60_1 : wr.cell? ⟨gb152, 1, none⟩ = some (.int .i64 ((rd_T38 l0 x14_1).f1)) := (blk_cell BK152.out 1).trans rfl
                        have hfz60_0 := blk_frozen BK152.out 0
                        have hfz60_1 := blk_frozen BK152.out 1
                        go_wp2_with (first | ((with_reducible refine gate_callee (f := 46) rfl ?_); refine goesL_ (some 25) rfl rfl Try.func46 (by kernel_rfl) rfl #[.agg #[.int .i64 ((rd_T38 l0 x14_1).f0), .int .i64 ((rd_T38 l0 x14_1).f1)], .int .i64 x7_2] rfl (by (try simp only [List.map_toArray, List.map_cons, List.map_nil]); first | done | rfl | (simp only [List.length_drop, List.length_take]; rfl)) ?_; (with_reducible refine (ropewayref04_Has.calls k2 ((rd_T38 l0 x14_1).f0) ((rd_T38 l0 x14_1).f1) x7_2 t153 t154 _ A19.out).mono ?_); rintro e w61 ⟨rfl, hb⟩; refine ⟨_, rfl, ?_⟩; have n0_ := Aside0.mk (blk_below (g := gb146) (o := .cells #[.int .i64 0, .int .i64 0] 38 (0, 0)) (by (with_reducible repeat (first | refine blk_drewN ?_ _ | refine blk_drew ?_ | refine blk_alloc ?_ _)); exact BK146.out) hb); have n1_ := Aside0.mk (blk_below (g := gb147) (o := .cells #[.bool x148000_2, .bool x148001_2, .bool x148002_2, .bool x148003_2, .bool x148004_2, .bool x148005_2] 41 (0, 0)) (by (with_reducible repeat (first | refine blk_drewN ?_ _ | refine blk_drew ?_ | refine blk_alloc ?_ _)); exact BK147.out) hb); have n2_ := Aside0.mk (blk_below (g := gb148) (o := .cells #[.bool x149000_2, .bool x149001_2, .bool x149002_2, .bool x149003_2, .bool x149004_2, .bool x149005_2] 41 (0, 0)) (by (with_reducible repeat (first | refine blk_drewN ?_ _ | refine blk_drew ?_ | refine blk_alloc ?_ _)); exact BK148.out) hb); have n3_ := Aside0.mk (blk_below (g := gb152) (o := .cells #[.int .i64 ((rd_T38 l0 x14_1).f0), .int .i64 ((rd_T38 l0 x14_1).f1)] 38 (0, 0)) (by (with_reducible repeat (first | refine blk_drewN ?_ _ | refine blk_drew ?_ | refine blk_alloc ?_ _)); exact BK152.out) hb); have n4_ := Aside0.mk (below_step (by repeat (first | (with_reducible first | exact HB.out | apply below_alloc | apply pw_below_drewN | apply below_drew1 | refine below_set ?_ GE146.out | refine below_set ?_ GE147.out | refine below_set ?_ GE148.out | refine below_set ?_ GE152.out) | exact HB.out)) hb); clear BK146; clear BK147; clear BK148; clear BK152; clear HB; have BK146 := n0_; have BK147 := n1_; have BK148 := n2_; have BK152 := n3_; have HB := n4_; clear n0_ n1_ n2_ n3_ n4_; (try clear hb); (try clear hb2); (try clear hk); (try clear hi); have hnb62 := NB147_146.out; have hnc62 := NB146_147.out; have hnb63 := NB147_148.out; have hnc63 := NB148_147.out; have pdz64 : 0 ≤ (x7_2 : Int) := (of_decide_eq_true (by first | (with_reducible assumption) | assumption)); have qdz64 : (x7_2 : Int) < 6 := (of_decide_eq_true (by first | (with_reducible assumption) | assumption)); have hcdz64 : w61.cell? ⟨gb147, (x7_2 : Int).toNat, none⟩ = some (.bool (rdOf false [x148000_2, x148001_2, x148002_2, x148003_2, x148004_2, x148005_2] x7_2)) := arrC6 BK147.out x7_2 pdz64 qdz64; have hfdz64 := blk_frozen BK147.out (x7_2 : Int).toNat; (try rw [← Nbq21.out] at hcdz64); (try rw [← Nbq45.out] at hcdz64); replace pdz64 := eq_true pdz64; replace qdz64 := eq_true qdz64; have hnb65 := NB148_146.out; have hnc65 := NB146_148.out; have pdz66 : 0 ≤ (x7_2 : Int) := (of_decide_eq_true (by first | (with_reducible assumption) | assumption)); have qdz66 : (x7_2 : Int) < 6 := (of_decide_eq_true (by first | (with_reducible assumption) | assumption)); have hcdz66 : w61.cell? ⟨gb148, (x7_2 : Int).toNat, none⟩ = some (.bool (rdOf false [x149000_2, x149001_2, x149002_2, x149003_2, x149004_2, x149005_2] x7_2)) := arrC6 BK148.out x7_2 pdz66 qdz66; have hfdz66 := blk_frozen BK148.out (x7_2 : Int).toNat; (try rw [← Nbq21.out] at hcdz66); (try rw [← Nbq45.out] at hcdz66); replace pdz66 := eq_true pdz66; replace qdz66 := eq_true qdz66))
                        go_roundg k2
                        case measure => have := HK1.out; have := HK2.out; omega
                        case rel => exact ⟨(wrap64 (x7_2 + 1)), (stA x7_2 0 t153 x148000_2), (stA x7_2 1 t153 x148001_2), (stA x7_2 2 t153 x148002_2), (stA x7_2 3 t153 x148003_2), (stA x7_2 4 t153 x148004_2), (stA x7_2 5 t153 x148005_2), (stA x7_2 0 t154 x149000_2), (stA x7_2 1 t154 x149001_2), (stA x7_2 2 t154 x149002_2), (stA x7_2 3 t154 x149003_2), (stA x7_2 4 t154 x149004_2), (stA x7_2 5 t154 x149005_2), (by first | rfl | (simp; done) | (simp [*]; done) | (simp; grind)), H', ⟨by have := HK1.out; have := HK2.out; omega⟩, ⟨by (with_reducible repeat (first | refine blk_drewN ?_ _ | refine blk_drew ?_ | refine blk_alloc ?_ _)); refine blk_far ?_ NB146_148.out _; (with_reducible repeat (first | refine blk_drewN ?_ _ | refine blk_drew ?_ | refine blk_alloc ?_ _)); refine blk_far ?_ NB146_147.out _; (with_reducible repeat (first | refine blk_drewN ?_ _ | refine blk_drew ?_ | refine blk_alloc ?_ _)); exact BK146.out⟩, ⟨by (with_reducible repeat (first | refine blk_drewN ?_ _ | refine blk_drew ?_ | refine blk_alloc ?_ _)); refine blk_far ?_ NB147_148.out _; (with_reducible repeat (first | refine blk_drewN ?_ _ | refine blk_drew ?_ | refine blk_alloc ?_ _)); refine arrP6 ?_ x7_2 t153 (of_decide_eq_true (by first | (with_reducible assumption) | assumption)) (of_decide_eq_true (by first | (with_reducible assumption) | assumption)); (with_reducible repeat (first | refine blk_drewN ?_ _ | refine blk_drew ?_ | refine blk_alloc ?_ _)); exact BK147.out⟩, ⟨by (with_reducible repeat (first | refine blk_drewN ?_ _ | refine blk_drew ?_ | refine blk_alloc ?_ _)); refine arrP6 ?_ x7_2 t154 (of_decide_eq_true (by first | (with_reducible assumption) | assumption)) (of_decide_eq_true (by first | (with_reducible assumption) | assumption)); (with_reducible repeat (first | refine blk_drewN ?_ _ | refine blk_drew ?_ | refine blk_alloc ?_ _)); refine blk_far ?_ NB148_147.out _; (with_reducible repeat (first | refine blk_drewN ?_ _ | refine blk_drew ?_ | refine blk_alloc ?_ _)); exact BK148.out⟩, ⟨by (with_reducible repeat (first | refine blk_drewN ?_ _ | refine blk_drew ?_ | refine blk_alloc ?_ _)); refine blk_far ?_ NB152_148.out _; (with_reducible repeat (first | refine blk_drewN ?_ _ | refine blk_drew ?_ | refine blk_alloc ?_ _)); refine blk_far ?_ NB152_147.out _; (with_reducible repeat (first | refine blk_drewN ?_ _ | refine blk_drew ?_ | refine blk_alloc ?_ _)); exact BK152.out⟩, ⟨by repeat (first | (with_reducible first | exact HB.out | apply below_alloc | apply pw_below_drewN | apply below_drew1 | refine below_set ?_ GE146.out | refine below_set ?_ GE147.out | refine below_set ?_ GE148.out | refine below_set ?_ GE152.out) | exact HB.out)⟩⟩
                  · rw [if_neg c20] at H
                    exact absurd H (by simp)
                · rw [if_neg c18] at H
                  have c18b0 : decide (x7_2 < 6) = false := decide_eq_false c18
                  clear c18
                  have H' := Aside0.mk H
                  clear H
                  go_wp2
                  go_roundg k2
                  case measure => have := HK1.out; have := HK2.out; omega
                  case rel => exact ⟨(wrap64 (x14_1 + 1)), (x148000_2), (x148001_2), (x148002_2), (x148003_2), (x148004_2), (x148005_2), (x149000_2), (x149001_2), (x149002_2), (x149003_2), (x149004_2), (x149005_2), (by first | rfl | (simp; done) | (simp [*]; done) | (simp; grind)), H', ⟨by have := HK1.out; have := HK2.out; omega⟩, ⟨by (with_reducible repeat (first | refine blk_drewN ?_ _ | refine blk_drew ?_ | refine blk_alloc ?_ _)); exact BK146.out⟩, ⟨by (with_reducible repeat (first | refine blk_drewN ?_ _ | refine blk_drew ?_ | refine blk_alloc ?_ _)); exact BK147.out⟩, ⟨by (with_reducible repeat (first | refine blk_drewN ?_ _ | refine blk_drew ?_ | refine blk_alloc ?_ _)); exact BK148.out⟩, ⟨by repeat (first | (with_reducible first | exact HB.out | apply below_alloc | apply pw_below_drewN | apply below_drew1 | refine below_set ?_ GE146.out | refine below_set ?_ GE147.out | refine below_set ?_ GE148.out | refine below_set ?_ GE152.out) | exact HB.out)⟩⟩
          · rw [if_neg c12] at H
            exact absurd H (by simp)
        · rw [if_neg c11] at H
          exact absurd H (by simp)
      · rw [if_neg c10] at H
        have c10b0 : decide (x14_1 < (l0.length : Int)) = false := decide_eq_false c10
        clear c10
        replace H := Option.bind_eq_some_iff.mp H
        obtain ⟨⟨t149, t150⟩, A670, H⟩ := H
        replace H : (some (t149, t150)) = some (r1, r2) := H
        have A67 := Aside0.mk A670
        clear A670
        simp only [Option.some.injEq, Prod.mk.injEq] at H
        obtain ⟨rfl, rfl⟩ := H
        have hnb68 := NB147_146.out
        have hnc68 := NB146_147.out
        have hnb69 := NB147_148.out
        have hnc69 := NB148_147.out
        have hcz70_0 : wr.cell? ⟨gb147, 0, none⟩ = some (.bool x148000_1) := (blk_cell BK147.out 0).trans rfl
        have hcz70_1 : wr.cell? ⟨gb147, 1, none⟩ = some (.bool x148001_1) := (blk_cell BK147.out 1).trans rfl
        have hcz70_2 : wr.cell? ⟨gb147, 2, none⟩ = some (.bool x148002_1) := (blk_cell BK147.out 2).trans rfl
        have hcz70_3 : wr.cell? ⟨gb147, 3, none⟩ = some (.bool x148003_1) := (blk_cell BK147.out 3).trans rfl
        have hcz70_4 : wr.cell? ⟨gb147, 4, none⟩ = some (.bool x148004_1) := (blk_cell BK147.out 4).trans rfl
        have hcz70_5 : wr.cell? ⟨gb147, 5, none⟩ = some (.bool x148005_1) := (blk_cell BK147.out 5).trans rfl
        have hfz70_0 := blk_frozen BK147.out 0
        have hfz70_1 := blk_frozen BK147.out 1
        have hfz70_2 := blk_frozen BK147.out 2
        have hfz70_3 := blk_frozen BK147.out 3
        have hfz70_4 := blk_frozen BK147.out 4
        have hfz70_5 := blk_frozen BK147.out 5
        have hnb71 := NB148_146.out
        have hnc71 := NB146_148.out
        have hcz72_0 : wr.cell? ⟨gb148, 0, none⟩ = some (.bool x149000_1) := (blk_cell BK148.out 0).trans rfl
        have hcz72_1 : wr.cell? ⟨gb148, 1, none⟩ = some (.bool x149001_1) := (blk_cell BK148.out 1).trans rfl
        have hcz72_2 : wr.cell? ⟨gb148, 2, none⟩ = some (.bool x149002_1) := (blk_cell BK148.out 2).trans rfl
        have hcz72_3 : wr.cell? ⟨gb148, 3, none⟩ = some (.bool x149003_1) := (blk_cell BK148.out 3).trans rfl
        have hcz72_4 : wr.cell? ⟨gb148, 4, none⟩ = some (.bool x149004_1) := (blk_cell BK148.out 4).trans rfl
        have hcz72_5 : wr.cell? ⟨gb148, 5, none⟩ = some (.bool x149005_1) := (blk_cell BK148.out 5).trans rfl
        have hfz72_0 := blk_frozen BK148.out 0
        have hfz72_1 := blk_frozen BK148.out 1
        have hfz72_2 := blk_frozen BK148.out 2
        have hfz72_3 := blk_frozen BK148.out 3
        have hfz72_4 := blk_frozen BK148.out 4
        have hfz72_5 := blk_frozen BK148.out 5
        go_wp2_with (first | ((with_reducible refine gate_callee (f := 44) rfl ?_); refine goesL_ (some 47) rfl rfl Try.func44 (by kernel_rfl) rfl #[.agg #[.bool x148000_1, .bool x148001_1, .bool x148002_1, .bool x148003_1, .bool x148004_1, .bool x148005_1], .agg #[.bool x149000_1, .bool x149001_1, .bool x149002_1, .bool x149003_1, .bool x149004_1, .bool x149005_1]] rfl (by (try simp only [List.map_toArray, List.map_cons, List.map_nil]); first | done | rfl | (simp only [List.length_drop, List.length_take]; rfl)) ?_; (with_reducible refine (ropewayref04_set.calls k1 x148000_1 x148001_1 x148002_1 x148003_1 x148004_1 x148005_1 x149000_1 x149001_1 x149002_1 x149003_1 x149004_1 x149005_1 t149 t150 _ A67.out).mono ?_); rintro e w73 ⟨rfl, hb⟩; refine ⟨_, rfl, ?_⟩; have n0_ := Aside0.mk (blk_below (g := gb146) (o := .cells #[.int .i64 0, .int .i64 0] 38 (0, 0)) (by (with_reducible repeat (first | refine blk_drewN ?_ _ | refine blk_drew ?_ | refine blk_alloc ?_ _)); exact BK146.out) hb); have n1_ := Aside0.mk (blk_below (g := gb147) (o := .cells #[.bool x148000_1, .bool x148001_1, .bool x148002_1, .bool x148003_1, .bool x148004_1, .bool x148005_1] 41 (0, 0)) (by (with_reducible repeat (first | refine blk_drewN ?_ _ | refine blk_drew ?_ | refine blk_alloc ?_ _)); exact BK147.out) hb); have n2_ := Aside0.mk (blk_below (g := gb148) (o := .cells #[.bool x149000_1, .bool x149001_1, .bool x149002_1, .bool x149003_1, .bool x149004_1, .bool x149005_1] 41 (0, 0)) (by (with_reducible repeat (first | refine blk_drewN ?_ _ | refine blk_drew ?_ | refine blk_alloc ?_ _)); exact BK148.out) hb); have n3_ := Aside0.mk (below_step (by repeat (first | (with_reducible first | exact HB.out | apply below_alloc | apply pw_below_drewN | apply below_drew1 | refine below_set ?_ GE146.out | refine below_set ?_ GE147.out | refine below_set ?_ GE148.out) | exact HB.out)) hb); clear BK146; clear BK147; clear BK148; clear HB; have BK146 := n0_; have BK147 := n1_; have BK148 := n2_; have HB := n3_; clear n0_ n1_ n2_ n3_; (try clear hb); (try clear hb2); (try clear hk); (try clear hi); have hcz74_0 : w73.cell? ⟨gb146, 0, none⟩ = some (.int .i64 0) := (blk_cell BK146.out 0).trans rfl; have hcz74_1 : w73.cell? ⟨gb146, 1, none⟩ = some (.int .i64 0) := (blk_cell BK146.out 1).trans rfl; have hfz74_0 := blk_frozen BK146.out 0; have hfz74_1 := blk_frozen BK146.out 1))
        refine bodyPost_ret (results_cell_row rfl _ _ gb146 38 #[.int .i64 t149, .int .i64 t150] (0, 0) _ rfl (by (with_reducible repeat (first | refine blk_drewN ?_ _ | refine blk_drew ?_ | refine blk_alloc ?_ _)); refine blk_put (cs := #[.int .i64 t149, .int .i64 0]) ?_ 1 _ rfl; (with_reducible repeat (first | refine blk_drewN ?_ _ | refine blk_drew ?_ | refine blk_alloc ?_ _)); refine blk_put (cs := #[.int .i64 0, .int .i64 0]) ?_ 0 _ rfl; (with_reducible repeat (first | refine blk_drewN ?_ _ | refine blk_drew ?_ | refine blk_alloc ?_ _)); exact BK146.out) Try.underlying38 rfl (by kernel_rfl)) rfl ?_
        exact ⟨by first | rfl | (simp [errW_none, errW_some] <;> rfl) | (simp [*, errW_none, errW_some] <;> rfl), by repeat (first | (with_reducible first | exact HB.out | apply below_alloc | apply pw_below_drewN | apply below_drew1 | refine below_set ?_ GE146.out | refine below_set ?_ GE147.out | refine below_set ?_ GE148.out) | exact HB.out)⟩

end Go.Proofs.Ytbnhgckdplndfaa.PChangeJoins
