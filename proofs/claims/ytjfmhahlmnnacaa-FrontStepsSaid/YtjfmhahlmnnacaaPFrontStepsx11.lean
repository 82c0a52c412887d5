/- Written by a program of this session (wip/tool/px.py) over the kit's print: what the code that the law FrontSteps reaches computes, function by function, and the law's row. -/
import Derived.Test.YtjfmhahlmnnacaaPFrontStepsx0
import Derived.Test.YtjfmhahlmnnacaaPFrontStepsx6
namespace Go.Proofs.Ytjfmhahlmnnacaa.PFrontSteps
open Go.RowKit Go.Proofs.YtjfmhahlmnnacaaX Go.Proofs.YtjfmhahlmnnacaaW.PrintWords Go.Proofs.YtjfmhahlmnnacaaW.PrintLast Go.Proofs.YtjfmhahlmnnacaaW.PrintMore
open Go.Proofs.YtjfmhahlmnnacaaW.PrintWords renaming blk_drewN → zN, blk_drew → zD, blk_alloc → zA, blk_cell → zL, blk_frozen → zF, below_step → zB
open Go.Proofs.YtjfmhahlmnnacaaW.PrintWords.Aside0 renaming mk → zM
attribute [local go_sem] max2_int min2_int max_two min_two max_three min_three max_four min_four   -- for this text's walks alone
set_option linter.unusedVariables false
set_option linter.unusedSimpArgs false

attribute [local go_sem] px_nilq22
/-! ### ropewayref04_Minus: function 18 -/
def ropewayref04_Minus.l0 : Nat → Int → Int → Int → Int → Int → Bool → Bool → Bool → Bool → Bool → Bool → Bool → Bool → Bool → Bool → Bool → Bool → Option (Int × Int)
  | 0, _, _, _, _, _, _, _, _, _, _, _, _, _, _, _, _, _ => none
  | k + 1, x7, x316000, x316001, x317000, x317001, x319000, x319001, x319002, x319003, x319004, x319005, x320000, x320001, x320002, x320003, x320004, x320005 => if x7 < 6 then ((ropewayref04_Has.f k x316000 x316001 x7).bind fun bt320 => ((ropewayref04_Has.f k x317000 x317001 x7).bind fun bt322 => (if bt320.1 = true then (if 0 ≤ x7 then (if bt320.2 = true then (ropewayref04_Minus.l0 k (wrap64 (x7 + 1)) x316000 x316001 x317000 x317001 (stA x7 0 (!bt322.1) x319000) (stA x7 1 (!bt322.1) x319001) (stA x7 2 (!bt322.1) x319002) (stA x7 3 (!bt322.1) x319003) (stA x7 4 (!bt322.1) x319004) (stA x7 5 (!bt322.1) x319005) (stA x7 0 (!bt322.2) x320000) (stA x7 1 (!bt322.2) x320001) (stA x7 2 (!bt322.2) x320002) (stA x7 3 (!bt322.2) x320003) (stA x7 4 (!bt322.2) x320004) (stA x7 5 (!bt322.2) x320005)) else (ropewayref04_Minus.l0 k (wrap64 (x7 + 1)) x316000 x316001 x317000 x317001 (stA x7 0 (!bt322.1) x319000) (stA x7 1 (!bt322.1) x319001) (stA x7 2 (!bt322.1) x319002) (stA x7 3 (!bt322.1) x319003) (stA x7 4 (!bt322.1) x319004) (stA x7 5 (!bt322.1) x319005) (stA x7 0 false x320000) (stA x7 1 false x320001) (stA x7 2 false x320002) (stA x7 3 false x320003) (stA x7 4 false x320004) (stA x7 5 false x320005))) else (none)) else (if 0 ≤ x7 then (if bt320.2 = true then (ropewayref04_Minus.l0 k (wrap64 (x7 + 1)) x316000 x316001 x317000 x317001 (stA x7 0 false x319000) (stA x7 1 false x319001) (stA x7 2 false x319002) (stA x7 3 false x319003) (stA x7 4 false x319004) (stA x7 5 false x319005) (stA x7 0 (!bt322.2) x320000) (stA x7 1 (!bt322.2) x320001) (stA x7 2 (!bt322.2) x320002) (stA x7 3 (!bt322.2) x320003) (stA x7 4 (!bt322.2) x320004) (stA x7 5 (!bt322.2) x320005)) else (ropewayref04_Minus.l0 k (wrap64 (x7 + 1)) x316000 x316001 x317000 x317001 (stA x7 0 false x319000) (stA x7 1 false x319001) (stA x7 2 false x319002) (stA x7 3 false x319003) (stA x7 4 false x319004) (stA x7 5 false x319005) (stA x7 0 false x320000) (stA x7 1 false x320001) (stA x7 2 false x320002) (stA x7 3 false x320003) (stA x7 4 false x320004) (stA x7 5 false x320005))) else (none))))) else ((ropewayref04_set.f k x319000 x319001 x319002 x319003 x319004 x319005 x320000 x320001 x320002 x320003 x320004 x320005).bind fun bt324 => (some (bt324.1, bt324.2)))
def ropewayref04_Minus.f (k : Nat) (a0_0 : Int) (a0_1 : Int) (a1_0 : Int) (a1_1 : Int) : Option (Int × Int) := ropewayref04_Minus.l0 k 0 a0_0 a0_1 a1_0 a1_1 false false false false false false false false false false false false
theorem ropewayref04_Minus.mono_l : ∀ k, (∀ y0 y1 y2 y3 y4 y5 y6 y7 y8 y9 y10 y11 y12 y13 y14 y15 y16, LeO (ropewayref04_Minus.l0 k y0 y1 y2 y3 y4 y5 y6 y7 y8 y9 y10 y11 y12 y13 y14 y15 y16) (ropewayref04_Minus.l0 (k + 1) y0 y1 y2 y3 y4 y5 y6 y7 y8 y9 y10 y11 y12 y13 y14 y15 y16))
  | 0 => fun _ _ _ _ _ _ _ _ _ _ _ _ _ _ _ _ _ r h => by simp [ropewayref04_Minus.l0] at h
  | k + 1 => by
    have ih0 := ropewayref04_Minus.mono_l k
    · intro y0 y1 y2 y3 y4 y5 y6 y7 y8 y9 y10 y11 y12 y13 y14 y15 y16
      unfold ropewayref04_Minus.l0
      repeat' first
      | (with_reducible exact ih0 _ _ _ _ _ _ _ _ _ _ _ _ _ _ _ _ _)
      | (with_reducible exact ropewayref04_Has.mono _ _ _ _)
      | (with_reducible exact ropewayref04_set.mono _ _ _ _ _ _ _ _ _ _ _ _ _)
      | (with_reducible exact LeO.refl _)
      | (with_reducible exact LeO.none _)
      | (with_reducible refine LeO.ite ?_ ?_)
      | (with_reducible refine LeO.bind ?_ (fun _ => ?_))
      | exact ih0 _ _ _ _ _ _ _ _ _ _ _ _ _ _ _ _ _
      | exact ropewayref04_Has.mono _ _ _ _
      | exact ropewayref04_set.mono _ _ _ _ _ _ _ _ _ _ _ _ _
      | exact LeO.none _
      | refine LeO.ite ?_ ?_
      | refine LeO.bind ?_ (fun _ => ?_)
theorem ropewayref04_Minus.mono : ∀ a0 a1 a2 a3 k, LeO (ropewayref04_Minus.f k a0 a1 a2 a3) (ropewayref04_Minus.f (k + 1) a0 a1 a2 a3) := by
  intro a0 a1 a2 a3 k
  have ih0 := ropewayref04_Minus.mono_l k
  unfold ropewayref04_Minus.f
  repeat' first
      | (with_reducible exact ih0 _ _ _ _ _ _ _ _ _ _ _ _ _ _ _ _ _)
      | (with_reducible exact ropewayref04_Has.mono _ _ _ _)
      | (with_reducible exact ropewayref04_set.mono _ _ _ _ _ _ _ _ _ _ _ _ _)
      | (with_reducible exact LeO.refl _)
      | (with_reducible exact LeO.none _)
      | (with_reducible refine LeO.ite ?_ ?_)
      | (with_reducible refine LeO.bind ?_ (fun _ => ?_))
      | exact ih0 _ _ _ _ _ _ _ _ _ _ _ _ _ _ _ _ _
      | exact ropewayref04_Has.mono _ _ _ _
      | exact ropewayref04_set.mono _ _ _ _ _ _ _ _ _ _ _ _ _
      | exact LeO.none _
      | refine LeO.ite ?_ ?_
      | refine LeO.bind ?_ (fun _ => ?_)
set_option maxHeartbeats 8000000 in
set_option maxRecDepth 100000 in
theorem ropewayref04_Minus.calls (k : Nat) (a0_0 : Int) (a0_1 : Int) (a1_0 : Int) (a1_1 : Int) (r1 : Int) (r2 : Int) (w : World) (h : ropewayref04_Minus.f k a0_0 a0_1 a1_0 a1_1 = some (r1, r2)) :
    Calls Try.prog 18 #[.agg #[.int .i64 a0_0, .int .i64 a0_1], .agg #[.int .i64 a1_0, .int .i64 a1_1]] w fun e w' => e = .returned (.agg #[.int .i64 r1, .int .i64 r2]) ∧ Below w.heap.size w w' := by
  have hu24 := Try.underlying24
  have hu55 := Try.underlying55
  have HB := zM (Below.refl w.heap.size w)
  have H : (ropewayref04_Minus.l0 k 0 a0_0 a0_1 a1_0 a1_1 false false false false false false false false false false false false) = some (r1, r2) := h
  clear h
  have H' := zM H
  clear H
  go_enter Try.func18, Try.ntmps18
  go_wp2_with (first | ((with_reducible refine gate_dst (N := 2) rfl ?_); refine box_event ?hg (N := 2) ?hd (cs := #[.int .i64 a0_0, .int .i64 a0_1]) (t := 24) ?hr ?_; (case hd => rfl); (case hg => rfl); (case hr => first | (go_simp; done) | (go_simp; rfl)); intro gb315 hg w3 hbox hb; have BK315 := zM (hbox); have GW315 := zM (bs_ hg); have GE315 := zM (bs_ hg); replace HB := zM (zB bel_ hb); clear hb hbox hg) | ((with_reducible refine gate_dst (N := 3) rfl ?_); refine box_event ?hg (N := 3) ?hd (cs := #[.int .i64 a1_0, .int .i64 a1_1]) (t := 24) ?hr ?_; (case hd => rfl); (case hg => rfl); (case hr => first | (go_simp; done) | (go_simp; rfl)); intro gb316 hg w4 hbox hb; have BK316 := zM (hbox); have GW316 := zM (bs_ hg); have GE316 := zM (bs_ hg); replace HB := zM (zB bel_ hb); have NB315_316 := zM (nl_ BK315 hg); have NB316_315 := zM (ng_ BK315 hg); replace BK315 := zM (bb_ BK315 hb); clear hb hbox hg) | ((with_reducible refine gate_dst (N := 4) rfl ?_); refine box_event ?hg (N := 4) ?hd (cs := #[.int .i64 0, .int .i64 0]) (t := 24) ?hr ?_; (case hd => rfl); (case hg => rfl); (case hr => first | (go_simp; done) | (go_simp; rfl)); intro gb317 hg w5 hbox hb; have BK317 := zM (hbox); have GW317 := zM (bs_ hg); have GE317 := zM (bs_ hg); replace HB := zM (zB bel_ hb); have NB315_317 := zM (nl_ BK315 hg); have NB317_315 := zM (ng_ BK315 hg); replace BK315 := zM (bb_ BK315 hb); have NB316_317 := zM (nl_ BK316 hg); have NB317_316 := zM (ng_ BK316 hg); replace BK316 := zM (bb_ BK316 hb); clear hb hbox hg) | ((with_reducible refine gate_dst (N := 5) rfl ?_); refine box_event ?hg (N := 5) ?hd (cs := #[.bool false, .bool false, .bool false, .bool false, .bool false, .bool false]) (t := 55) ?hr ?_; (case hd => rfl); (case hg => rfl); (case hr => first | (go_simp; done) | (go_simp; rfl)); intro gb318 hg w6 hbox hb; have BK318 := zM (hbox); have GW318 := zM (bs_ hg); have GE318 := zM (bs_ hg); replace HB := zM (zB bel_ hb); have NB315_318 := zM (nl_ BK315 hg); have NB318_315 := zM (ng_ BK315 hg); replace BK315 := zM (bb_ BK315 hb); have NB316_318 := zM (nl_ BK316 hg); have NB318_316 := zM (ng_ BK316 hg); replace BK316 := zM (bb_ BK316 hb); have NB317_318 := zM (nl_ BK317 hg); have NB318_317 := zM (ng_ BK317 hg); replace BK317 := zM (bb_ BK317 hb); clear hb hbox hg) | ((with_reducible refine gate_dst (N := 6) rfl ?_); refine box_event ?hg (N := 6) ?hd (cs := #[.bool false, .bool false, .bool false, .bool false, .bool false, .bool false]) (t := 55) ?hr ?_; (case hd => rfl); (case hg => rfl); (case hr => first | (go_simp; done) | (go_simp; rfl)); intro gb319 hg w7 hbox hb; have BK319 := zM (hbox); have GW319 := zM (bs_ hg); have GE319 := zM (bs_ hg); replace HB := zM (zB bel_ hb); have NB315_319 := zM (nl_ BK315 hg); have NB319_315 := zM (ng_ BK315 hg); replace BK315 := zM (bb_ BK315 hb); have NB316_319 := zM (nl_ BK316 hg); have NB319_316 := zM (ng_ BK316 hg); replace BK316 := zM (bb_ BK316 hb); have NB317_319 := zM (nl_ BK317 hg); have NB319_317 := zM (ng_ BK317 hg); replace BK317 := zM (bb_ BK317 hb); have NB318_319 := zM (nl_ BK318 hg); have NB319_318 := zM (ng_ BK318 hg); replace BK318 := zM (bb_ BK318 hb); clear hb hbox hg; have hnb8 := NB318_315.out; have hnc8 := NB315_318.out; have hnb9 := NB318_316.out; have hnc9 := NB316_318.out; have hnb10 := NB318_317.out; have hnc10 := NB317_318.out; have hnb11 := NB318_319.out; have hnc11 := NB319_318.out; have hcz12_0 : w7.cell? ⟨gb318, 0, none⟩ = some (.bool false) := (zL BK318.out 0).trans rfl; have hcz12_1 : w7.cell? ⟨gb318, 1, none⟩ = some (.bool false) := (zL BK318.out 1).trans rfl; have hcz12_2 : w7.cell? ⟨gb318, 2, none⟩ = some (.bool false) := (zL BK318.out 2).trans rfl; have hcz12_3 : w7.cell? ⟨gb318, 3, none⟩ = some (.bool false) := (zL BK318.out 3).trans rfl; have hcz12_4 : w7.cell? ⟨gb318, 4, none⟩ = some (.bool false) := (zL BK318.out 4).trans rfl; have hcz12_5 : w7.cell? ⟨gb318, 5, none⟩ = some (.bool false) := (zL BK318.out 5).trans rfl; have hfz12_0 := zF BK318.out 0; have hfz12_1 := zF BK318.out 1; have hfz12_2 := zF BK318.out 2; have hfz12_3 := zF BK318.out 3; have hfz12_4 := zF BK318.out 4; have hfz12_5 := zF BK318.out 5; have hnb13 := NB319_315.out; have hnc13 := NB315_319.out; have hnb14 := NB319_316.out; have hnc14 := NB316_319.out; have hnb15 := NB319_317.out; have hnc15 := NB317_319.out; have hcz16_0 : w7.cell? ⟨gb319, 0, none⟩ = some (.bool false) := (zL BK319.out 0).trans rfl; have hcz16_1 : w7.cell? ⟨gb319, 1, none⟩ = some (.bool false) := (zL BK319.out 1).trans rfl; have hcz16_2 : w7.cell? ⟨gb319, 2, none⟩ = some (.bool false) := (zL BK319.out 2).trans rfl; have hcz16_3 : w7.cell? ⟨gb319, 3, none⟩ = some (.bool false) := (zL BK319.out 3).trans rfl; have hcz16_4 : w7.cell? ⟨gb319, 4, none⟩ = some (.bool false) := (zL BK319.out 4).trans rfl; have hcz16_5 : w7.cell? ⟨gb319, 5, none⟩ = some (.bool false) := (zL BK319.out 5).trans rfl; have hfz16_0 := zF BK319.out 0; have hfz16_1 := zF BK319.out 1; have hfz16_2 := zF BK319.out 2; have hfz16_3 := zF BK319.out 3; have hfz16_4 := zF BK319.out 4; have hfz16_5 := zF BK319.out 5))
  go_loopg [7] k (fun kq v7 w' => ∃ (x7_1 : Int) (x319000_1 : Bool) (x319001_1 : Bool) (x319002_1 : Bool) (x319003_1 : Bool) (x319004_1 : Bool) (x319005_1 : Bool) (x320000_1 : Bool) (x320001_1 : Bool) (x320002_1 : Bool) (x320003_1 : Bool) (x320004_1 : Bool) (x320005_1 : Bool), v7 = .int .i64 x7_1 ∧ Aside0 (ropewayref04_Minus.l0 kq x7_1 a0_0 a0_1 a1_0 a1_1 x319000_1 x319001_1 x319002_1 x319003_1 x319004_1 x319005_1 x320000_1 x320001_1 x320002_1 x320003_1 x320004_1 x320005_1 = some (r1, r2)) ∧ Aside0 (kq ≤ k) ∧ Aside0 (w'.heap[gb315]? = some (.cells #[.int .i64 a0_0, .int .i64 a0_1] 24 (0, 0))) ∧ Aside0 (w'.heap[gb316]? = some (.cells #[.int .i64 a1_0, .int .i64 a1_1] 24 (0, 0))) ∧ Aside0 (w'.heap[gb317]? = some (.cells #[.int .i64 0, .int .i64 0] 24 (0, 0))) ∧ Aside0 (w'.heap[gb318]? = some (.cells #[.bool x319000_1, .bool x319001_1, .bool x319002_1, .bool x319003_1, .bool x319004_1, .bool x319005_1] 55 (0, 0))) ∧ Aside0 (w'.heap[gb319]? = some (.cells #[.bool x320000_1, .bool x320001_1, .bool x320002_1, .bool x320003_1, .bool x320004_1, .bool x320005_1] 55 (0, 0))) ∧ Aside0 (Below w.heap.size w w'))
  case atStart => exact ⟨(0), (false), (false), (false), (false), (false), (false), (false), (false), (false), (false), (false), (false), (by first | rfl | (simp; done) | (simp [*]; done) | (simp; grind)), H', ⟨Nat.le_refl _⟩, ⟨blf_⟩, ⟨blf_⟩, ⟨blf_⟩, ⟨by (with_reducible repeat (first | refine zN ?_ _ | refine zD ?_ | refine zA ?_ _)); refine blk_far ?_ NB318_319.out _; (with_reducible repeat (first | refine zN ?_ _ | refine zD ?_ | refine zA ?_ _)); refine blk_far ?_ NB318_319.out _; (with_reducible repeat (first | refine zN ?_ _ | refine zD ?_ | refine zA ?_ _)); refine blk_far ?_ NB318_319.out _; (with_reducible repeat (first | refine zN ?_ _ | refine zD ?_ | refine zA ?_ _)); refine blk_far ?_ NB318_319.out _; (with_reducible repeat (first | refine zN ?_ _ | refine zD ?_ | refine zA ?_ _)); refine blk_far ?_ NB318_319.out _; (with_reducible repeat (first | refine zN ?_ _ | refine zD ?_ | refine zA ?_ _)); refine blk_far ?_ NB318_319.out _; (with_reducible repeat (first | refine zN ?_ _ | refine zD ?_ | refine zA ?_ _)); refine blk_put (cs := #[.bool false, .bool false, .bool false, .bool false, .bool false, .bool false]) ?_ 5 _ rfl; (with_reducible repeat (first | refine zN ?_ _ | refine zD ?_ | refine zA ?_ _)); refine blk_put (cs := #[.bool false, .bool false, .bool false, .bool false, .bool false, .bool false]) ?_ 4 _ rfl; (with_reducible repeat (first | refine zN ?_ _ | refine zD ?_ | refine zA ?_ _)); refine blk_put (cs := #[.bool false, .bool false, .bool false, .bool false, .bool false, .bool false]) ?_ 3 _ rfl; (with_reducible repeat (first | refine zN ?_ _ | refine zD ?_ | refine zA ?_ _)); refine blk_put (cs := #[.bool false, .bool false, .bool false, .bool false, .bool false, .bool false]) ?_ 2 _ rfl; (with_reducible repeat (first | refine zN ?_ _ | refine zD ?_ | refine zA ?_ _)); refine blk_put (cs := #[.bool false, .bool false, .bool false, .bool false, .bool false, .bool false]) ?_ 1 _ rfl; (with_reducible repeat (first | refine zN ?_ _ | refine zD ?_ | refine zA ?_ _)); refine blk_put (cs := #[.bool false, .bool false, .bool false, .bool false, .bool false, .bool false]) ?_ 0 _ rfl; (with_reducible repeat (first | refine zN ?_ _ | refine zD ?_ | refine zA ?_ _)); exact BK318.out⟩, ⟨by (with_reducible repeat (first | refine zN ?_ _ | refine zD ?_ | refine zA ?_ _)); refine blk_put (cs := #[.bool false, .bool false, .bool false, .bool false, .bool false, .bool false]) ?_ 5 _ rfl; (with_reducible repeat (first | refine zN ?_ _ | refine zD ?_ | refine zA ?_ _)); refine blk_put (cs := #[.bool false, .bool false, .bool false, .bool false, .bool false, .bool false]) ?_ 4 _ rfl; (with_reducible repeat (first | refine zN ?_ _ | refine zD ?_ | refine zA ?_ _)); refine blk_put (cs := #[.bool false, .bool false, .bool false, .bool false, .bool false, .bool false]) ?_ 3 _ rfl; (with_reducible repeat (first | refine zN ?_ _ | refine zD ?_ | refine zA ?_ _)); refine blk_put (cs := #[.bool false, .bool false, .bool false, .bool false, .bool false, .bool false]) ?_ 2 _ rfl; (with_reducible repeat (first | refine zN ?_ _ | refine zD ?_ | refine zA ?_ _)); refine blk_put (cs := #[.bool false, .bool false, .bool false, .bool false, .bool false, .bool false]) ?_ 1 _ rfl; (with_reducible repeat (first | refine zN ?_ _ | refine zD ?_ | refine zA ?_ _)); refine blk_put (cs := #[.bool false, .bool false, .bool false, .bool false, .bool false, .bool false]) ?_ 0 _ rfl; (with_reducible repeat (first | refine zN ?_ _ | refine zD ?_ | refine zA ?_ _)); refine blk_far ?_ NB319_318.out _; (with_reducible repeat (first | refine zN ?_ _ | refine zD ?_ | refine zA ?_ _)); refine blk_far ?_ NB319_318.out _; (with_reducible repeat (first | refine zN ?_ _ | refine zD ?_ | refine zA ?_ _)); refine blk_far ?_ NB319_318.out _; (with_reducible repeat (first | refine zN ?_ _ | refine zD ?_ | refine zA ?_ _)); refine blk_far ?_ NB319_318.out _; (with_reducible repeat (first | refine zN ?_ _ | refine zD ?_ | refine zA ?_ _)); refine blk_far ?_ NB319_318.out _; (with_reducible repeat (first | refine zN ?_ _ | refine zD ?_ | refine zA ?_ _)); refine blk_far ?_ NB319_318.out _; (with_reducible repeat (first | refine zN ?_ _ | refine zD ?_ | refine zA ?_ _)); exact BK319.out⟩, ⟨bel_⟩⟩
  case round =>
   clear H'
   try clear c1
   try clear p2
   try clear c8
   try clear c9
   try clear c10
   try clear c11
   try clear c13
   try clear c14
   try clear c15
   try clear hcz12_0
   try clear hcz12_1
   try clear hcz12_2
   try clear hcz12_3
   try clear hcz12_4
   try clear hcz12_5
   try clear hcz16_0
   try clear hcz16_1
   try clear hcz16_2
   try clear hcz16_3
   try clear hcz16_4
   try clear hcz16_5
   try clear hfz12_0
   try clear hfz12_1
   try clear hfz12_2
   try clear hfz12_3
   try clear hfz12_4
   try clear hfz12_5
   try clear hfz16_0
   try clear hfz16_1
   try clear hfz16_2
   try clear hfz16_3
   try clear hfz16_4
   try clear hfz16_5
   obtain ⟨x7_1, x319000_1, x319001_1, x319002_1, x319003_1, x319004_1, x319005_1, x320000_1, x320001_1, x320002_1, x320003_1, x320004_1, x320005_1, rfl, HA, HK1, BK315, BK316, BK317, BK318, BK319, HB⟩ := hrel
   cases gk with
   | zero => exact absurd HA.out (by simp [ropewayref04_Minus.l0])
   | succ k1 =>
    have H := HA.out
    clear HA
    simp only [ropewayref04_Minus.l0] at H
    by_cases c17 : x7_1 < 6
    rotate_left
    · rw [if_neg c17] at H
      have c17b0 : decide (x7_1 < 6) = false := decide_eq_false c17
      clear c17
      replace H := Option.bind_eq_some_iff.mp H
      obtain ⟨⟨t324, t325⟩, A890, H⟩ := H
      replace H : (some (t324, t325)) = some (r1, r2) := H
      have A89 := zM A890
      clear A890
      simp only [Option.some.injEq, Prod.mk.injEq] at H
      obtain ⟨rfl, rfl⟩ := H
      have hnb90 := NB318_315.out
      have hnc90 := NB315_318.out
      have hnb91 := NB318_316.out
      have hnc91 := NB316_318.out
      have hnb92 := NB318_317.out
      have hnc92 := NB317_318.out
      have hnb93 := NB318_319.out
      have hnc93 := NB319_318.out
      have hcz94_0 : wr.cell? ⟨gb318, 0, none⟩ = some (.bool x319000_1) := (zL BK318.out 0).trans rfl
      have hcz94_1 : wr.cell? ⟨gb318, 1, none⟩ = some (.bool x319001_1) := (zL BK318.out 1).trans rfl
      have hcz94_2 : wr.cell? ⟨gb318, 2, none⟩ = some (.bool x319002_1) := (zL BK318.out 2).trans rfl
      have hcz94_3 : wr.cell? ⟨gb318, 3, none⟩ = some (.bool x319003_1) := (zL BK318.out 3).trans rfl
      have hcz94_4 : wr.cell? ⟨gb318, 4, none⟩ = some (.bool x319004_1) := (zL BK318.out 4).trans rfl
      have hcz94_5 : wr.cell? ⟨gb318, 5, none⟩ = some (.bool x319005_1) := (zL BK318.out 5).trans rfl
      have hfz94_0 := zF BK318.out 0
      have hfz94_1 := zF BK318.out 1
      have hfz94_2 := zF BK318.out 2
      have hfz94_3 := zF BK318.out 3
      have hfz94_4 := zF BK318.out 4
      have hfz94_5 := zF BK318.out 5
      have hnb95 := NB319_315.out
      have hnc95 := NB315_319.out
      have hnb96 := NB319_316.out
      have hnc96 := NB316_319.out
      have hnb97 := NB319_317.out
      have hnc97 := NB317_319.out
      have hcz98_0 : wr.cell? ⟨gb319, 0, none⟩ = some (.bool x320000_1) := (zL BK319.out 0).trans rfl
      have hcz98_1 : wr.cell? ⟨gb319, 1, none⟩ = some (.bool x320001_1) := (zL BK319.out 1).trans rfl
      have hcz98_2 : wr.cell? ⟨gb319, 2, none⟩ = some (.bool x320002_1) := (zL BK319.out 2).trans rfl
      have hcz98_3 : wr.cell? ⟨gb319, 3, none⟩ = some (.bool x320003_1) := (zL BK319.out 3).trans rfl
      have hcz98_4 : wr.cell? ⟨gb319, 4, none⟩ = some (.bool x320004_1) := (zL BK319.out 4).trans rfl
      have hcz98_5 : wr.cell? ⟨gb319, 5, none⟩ = some (.bool x320005_1) := (zL BK319.out 5).trans rfl
      have hfz98_0 := zF BK319.out 0
      have hfz98_1 := zF BK319.out 1
      have hfz98_2 := zF BK319.out 2
      have hfz98_3 := zF BK319.out 3
      have hfz98_4 := zF BK319.out 4
      have hfz98_5 := zF BK319.out 5
      go_wp2_with (first | ((with_reducible refine gate_callee (f := 31) rfl ?_); refine goL_ (some 46) Try.func31 #[.agg #[.bool x319000_1, .bool x319001_1, .bool x319002_1, .bool x319003_1, .bool x319004_1, .bool x319005_1], .agg #[.bool x320000_1, .bool x320001_1, .bool x320002_1, .bool x320003_1, .bool x320004_1, .bool x320005_1]] ?_; (with_reducible refine (ropewayref04_set.calls k1 x319000_1 x319001_1 x319002_1 x319003_1 x319004_1 x319005_1 x320000_1 x320001_1 x320002_1 x320003_1 x320004_1 x320005_1 t324 t325 _ A89.out).mono ?_); rintro e w99 ⟨rfl, hb⟩; refine ⟨_, rfl, ?_⟩; replace BK315 := zM (bb_ BK315 hb); replace BK316 := zM (bb_ BK316 hb); replace BK317 := zM (bb_ BK317 hb); replace BK318 := zM (bb_ BK318 hb); replace BK319 := zM (bb_ BK319 hb); replace HB := zM (zB bel_ hb); (try clear hb); (try clear hb2); (try clear hk); (try clear hi); have hnb100 := NB317_315.out; have hnc100 := NB315_317.out; have hnb101 := NB317_316.out; have hnc101 := NB316_317.out; have hcz102_0 : w99.cell? ⟨gb317, 0, none⟩ = some (.int .i64 0) := (zL BK317.out 0).trans rfl; have hcz102_1 : w99.cell? ⟨gb317, 1, none⟩ = some (.int .i64 0) := (zL BK317.out 1).trans rfl; have hfz102_0 := zF BK317.out 0; have hfz102_1 := zF BK317.out 1))
      refine bodyPost_ret (results_cell_row rfl _ _ gb317 24 #[.int .i64 t324, .int .i64 t325] (0, 0) _ rfl (by (with_reducible repeat (first | refine zN ?_ _ | refine zD ?_ | refine zA ?_ _)); refine blk_put (cs := #[.int .i64 t324, .int .i64 0]) ?_ 1 _ rfl; (with_reducible repeat (first | refine zN ?_ _ | refine zD ?_ | refine zA ?_ _)); refine blk_put (cs := #[.int .i64 0, .int .i64 0]) ?_ 0 _ rfl; (with_reducible repeat (first | refine zN ?_ _ | refine zD ?_ | refine zA ?_ _)); exact BK317.out) Try.underlying24 rfl (by kernel_rfl)) rfl ?_
      exact ⟨by first | rfl | (simp [errW_none, errW_some] <;> rfl) | (simp [*, errW_none, errW_some] <;> rfl), bel_⟩
    rw [if_pos c17] at H
    have c17b0 : decide (x7_1 < 6) = true := decide_eq_true c17
    clear c17
    replace H := Option.bind_eq_some_iff.mp H
    obtain ⟨⟨t320, t321⟩, A180, H⟩ := H
    replace H : ((ropewayref04_Has.f k1 a1_0 a1_1 x7_1).bind fun bt322 => (if t320 = true then (if 0 ≤ x7_1 then (if t321 = true then (ropewayref04_Minus.l0 k1 (wrap64 (x7_1 + 1)) a0_0 a0_1 a1_0 a1_1 (stA x7_1 0 (!bt322.1) x319000_1) (stA x7_1 1 (!bt322.1) x319001_1) (stA x7_1 2 (!bt322.1) x319002_1) (stA x7_1 3 (!bt322.1) x319003_1) (stA x7_1 4 (!bt322.1) x319004_1) (stA x7_1 5 (!bt322.1) x319005_1) (stA x7_1 0 (!bt322.2) x320000_1) (stA x7_1 1 (!bt322.2) x320001_1) (stA x7_1 2 (!bt322.2) x320002_1) (stA x7_1 3 (!bt322.2) x320003_1) (stA x7_1 4 (!bt322.2) x320004_1) (stA x7_1 5 (!bt322.2) x320005_1)) else (ropewayref04_Minus.l0 k1 (wrap64 (x7_1 + 1)) a0_0 a0_1 a1_0 a1_1 (stA x7_1 0 (!bt322.1) x319000_1) (stA x7_1 1 (!bt322.1) x319001_1) (stA x7_1 2 (!bt322.1) x319002_1) (stA x7_1 3 (!bt322.1) x319003_1) (stA x7_1 4 (!bt322.1) x319004_1) (stA x7_1 5 (!bt322.1) x319005_1) (stA x7_1 0 false x320000_1) (stA x7_1 1 false x320001_1) (stA x7_1 2 false x320002_1) (stA x7_1 3 false x320003_1) (stA x7_1 4 false x320004_1) (stA x7_1 5 false x320005_1))) else (none)) else (if 0 ≤ x7_1 then (if t321 = true then (ropewayref04_Minus.l0 k1 (wrap64 (x7_1 + 1)) a0_0 a0_1 a1_0 a1_1 (stA x7_1 0 false x319000_1) (stA x7_1 1 false x319001_1) (stA x7_1 2 false x319002_1) (stA x7_1 3 false x319003_1) (stA x7_1 4 false x319004_1) (stA x7_1 5 false x319005_1) (stA x7_1 0 (!bt322.2) x320000_1) (stA x7_1 1 (!bt322.2) x320001_1) (stA x7_1 2 (!bt322.2) x320002_1) (stA x7_1 3 (!bt322.2) x320003_1) (stA x7_1 4 (!bt322.2) x320004_1) (stA x7_1 5 (!bt322.2) x320005_1)) else (ropewayref04_Minus.l0 k1 (wrap64 (x7_1 + 1)) a0_0 a0_1 a1_0 a1_1 (stA x7_1 0 false x319000_1) (stA x7_1 1 false x319001_1) (stA x7_1 2 false x319002_1) (stA x7_1 3 false x319003_1) (stA x7_1 4 false x319004_1) (stA x7_1 5 false x319005_1) (stA x7_1 0 false x320000_1) (stA x7_1 1 false x320001_1) (stA x7_1 2 false x320002_1) (stA x7_1 3 false x320003_1) (stA x7_1 4 false x320004_1) (stA x7_1 5 false x320005_1))) else (none)))) = some (r1, r2) := H
    have A18 := zM A180
    clear A180
    replace H := Option.bind_eq_some_iff.mp H
    obtain ⟨⟨t322, t323⟩, A190, H⟩ := H
    replace H : (if t320 = true then (if 0 ≤ x7_1 then (if t321 = true then (ropewayref04_Minus.l0 k1 (wrap64 (x7_1 + 1)) a0_0 a0_1 a1_0 a1_1 (stA x7_1 0 (!t322) x319000_1) (stA x7_1 1 (!t322) x319001_1) (stA x7_1 2 (!t322) x319002_1) (stA x7_1 3 (!t322) x319003_1) (stA x7_1 4 (!t322) x319004_1) (stA x7_1 5 (!t322) x319005_1) (stA x7_1 0 (!t323) x320000_1) (stA x7_1 1 (!t323) x320001_1) (stA x7_1 2 (!t323) x320002_1) (stA x7_1 3 (!t323) x320003_1) (stA x7_1 4 (!t323) x320004_1) (stA x7_1 5 (!t323) x320005_1)) else (ropewayref04_Minus.l0 k1 (wrap64 (x7_1 + 1)) a0_0 a0_1 a1_0 a1_1 (stA x7_1 0 (!t322) x319000_1) (stA x7_1 1 (!t322) x319001_1) (stA x7_1 2 (!t322) x319002_1) (stA x7_1 3 (!t322) x319003_1) (stA x7_1 4 (!t322) x319004_1) (stA x7_1 5 (!t322) x319005_1) (stA x7_1 0 false x320000_1) (stA x7_1 1 false x320001_1) (stA x7_1 2 false x320002_1) (stA x7_1 3 false x320003_1) (stA x7_1 4 false x320004_1) (stA x7_1 5 false x320005_1))) else (none)) else (if 0 ≤ x7_1 then (if t321 = true then (ropewayref04_Minus.l0 k1 (wrap64 (x7_1 + 1)) a0_0 a0_1 a1_0 a1_1 (stA x7_1 0 false x319000_1) (stA x7_1 1 false x319001_1) (stA x7_1 2 false x319002_1) (stA x7_1 3 false x319003_1) (stA x7_1 4 false x319004_1) (stA x7_1 5 false x319005_1) (stA x7_1 0 (!t323) x320000_1) (stA x7_1 1 (!t323) x320001_1) (stA x7_1 2 (!t323) x320002_1) (stA x7_1 3 (!t323) x320003_1) (stA x7_1 4 (!t323) x320004_1) (stA x7_1 5 (!t323) x320005_1)) else (ropewayref04_Minus.l0 k1 (wrap64 (x7_1 + 1)) a0_0 a0_1 a1_0 a1_1 (stA x7_1 0 false x319000_1) (stA x7_1 1 false x319001_1) (stA x7_1 2 false x319002_1) (stA x7_1 3 false x319003_1) (stA x7_1 4 false x319004_1) (stA x7_1 5 false x319005_1) (stA x7_1 0 false x320000_1) (stA x7_1 1 false x320001_1) (stA x7_1 2 false x320002_1) (stA x7_1 3 false x320003_1) (stA x7_1 4 false x320004_1) (stA x7_1 5 false x320005_1))) else (none))) = some (r1, r2) := H
    have A19 := zM A190
    clear A190
    by_cases c20 : t320 = true
    · subst c20
      have H1 : (if 0 ≤ x7_1 then (if t321 = true then (ropewayref04_Minus.l0 k1 (wrap64 (x7_1 + 1)) a0_0 a0_1 a1_0 a1_1 (stA x7_1 0 (!t322) x319000_1) (stA x7_1 1 (!t322) x319001_1) (stA x7_1 2 (!t322) x319002_1) (stA x7_1 3 (!t322) x319003_1) (stA x7_1 4 (!t322) x319004_1) (stA x7_1 5 (!t322) x319005_1) (stA x7_1 0 (!t323) x320000_1) (stA x7_1 1 (!t323) x320001_1) (stA x7_1 2 (!t323) x320002_1) (stA x7_1 3 (!t323) x320003_1) (stA x7_1 4 (!t323) x320004_1) (stA x7_1 5 (!t323) x320005_1)) else (ropewayref04_Minus.l0 k1 (wrap64 (x7_1 + 1)) a0_0 a0_1 a1_0 a1_1 (stA x7_1 0 (!t322) x319000_1) (stA x7_1 1 (!t322) x319001_1) (stA x7_1 2 (!t322) x319002_1) (stA x7_1 3 (!t322) x319003_1) (stA x7_1 4 (!t322) x319004_1) (stA x7_1 5 (!t322) x319005_1) (stA x7_1 0 false x320000_1) (stA x7_1 1 false x320001_1) (stA x7_1 2 false x320002_1) (stA x7_1 3 false x320003_1) (stA x7_1 4 false x320004_1) (stA x7_1 5 false x320005_1))) else (none)) = some (r1, r2) := by rw [if_pos rfl] at H; exact H
      clear H
      have H := H1
      clear H1
      by_cases c21 : 0 ≤ x7_1
      rotate_left
      · rw [if_neg c21] at H
        exact absurd H (by simp)
      rw [if_pos c21] at H
      have c21b0 : decide (0 ≤ x7_1) = true := decide_eq_true c21
      clear c21
      by_cases c22 : t321 = true
      · subst c22
        have H1 : (ropewayref04_Minus.l0 k1 (wrap64 (x7_1 + 1)) a0_0 a0_1 a1_0 a1_1 (stA x7_1 0 (!t322) x319000_1) (stA x7_1 1 (!t322) x319001_1) (stA x7_1 2 (!t322) x319002_1) (stA x7_1 3 (!t322) x319003_1) (stA x7_1 4 (!t322) x319004_1) (stA x7_1 5 (!t322) x319005_1) (stA x7_1 0 (!t323) x320000_1) (stA x7_1 1 (!t323) x320001_1) (stA x7_1 2 (!t323) x320002_1) (stA x7_1 3 (!t323) x320003_1) (stA x7_1 4 (!t323) x320004_1) (stA x7_1 5 (!t323) x320005_1)) = some (r1, r2) := by rw [if_pos rfl] at H; exact H
        clear H
        have H := H1
        clear H1
        have H' := zM H
        clear H
        have hnb23 := NB315_316.out
        have hnc23 := NB316_315.out
        have hnb24 := NB315_317.out
        have hnc24 := NB317_315.out
        have hnb25 := NB315_318.out
        have hnc25 := NB318_315.out
        have hnb26 := NB315_319.out
        have hnc26 := NB319_315.out
        have hcz27_0 : wr.cell? ⟨gb315, 0, none⟩ = some (.int .i64 a0_0) := (zL BK315.out 0).trans rfl
        have hcz27_1 : wr.cell? ⟨gb315, 1, none⟩ = some (.int .i64 a0_1) := (zL BK315.out 1).trans rfl
        have hfz27_0 := zF BK315.out 0
        have hfz27_1 := zF BK315.out 1
        go_wp2_with (first | ((with_reducible refine gate_callee (f := 30) rfl ?_); refine goL_ (some 21) Try.func30 #[.agg #[.int .i64 a0_0, .int .i64 a0_1], .int .i64 x7_1] ?_; (with_reducible refine (ropewayref04_Has.calls k1 a0_0 a0_1 x7_1 true true _ A18.out).mono ?_); rintro e w28 ⟨rfl, hb⟩; refine ⟨_, rfl, ?_⟩; replace BK315 := zM (bb_ BK315 hb); replace BK316 := zM (bb_ BK316 hb); replace BK317 := zM (bb_ BK317 hb); replace BK318 := zM (bb_ BK318 hb); replace BK319 := zM (bb_ BK319 hb); replace HB := zM (zB bel_ hb); (try clear hb); (try clear hb2); (try clear hk); (try clear hi); have hnb29 := NB316_317.out; have hnc29 := NB317_316.out; have hnb30 := NB316_318.out; have hnc30 := NB318_316.out; have hnb31 := NB316_319.out; have hnc31 := NB319_316.out; have hcz32_0 : w28.cell? ⟨gb316, 0, none⟩ = some (.int .i64 a1_0) := (zL BK316.out 0).trans rfl; have hcz32_1 : w28.cell? ⟨gb316, 1, none⟩ = some (.int .i64 a1_1) := (zL BK316.out 1).trans rfl; have hfz32_0 := zF BK316.out 0; have hfz32_1 := zF BK316.out 1) | ((with_reducible refine gate_callee (f := 30) rfl ?_); refine goL_ (some 27) Try.func30 #[.agg #[.int .i64 a1_0, .int .i64 a1_1], .int .i64 x7_1] ?_; (with_reducible refine (ropewayref04_Has.calls k1 a1_0 a1_1 x7_1 t322 t323 _ A19.out).mono ?_); rintro e w33 ⟨rfl, hb⟩; refine ⟨_, rfl, ?_⟩; replace BK315 := zM (bb_ BK315 hb); replace BK316 := zM (bb_ BK316 hb); replace BK317 := zM (bb_ BK317 hb); replace BK318 := zM (bb_ BK318 hb); replace BK319 := zM (bb_ BK319 hb); replace HB := zM (zB bel_ hb); (try clear hb); (try clear hb2); (try clear hk); (try clear hi); have hnb34 := NB318_317.out; have hnc34 := NB317_318.out; have hnb35 := NB318_319.out; have hnc35 := NB319_318.out; have pdz36 : 0 ≤ (x7_1 : Int) := (of_decide_eq_true (by first | (with_reducible assumption) | assumption)); have qdz36 : (x7_1 : Int) < 6 := (of_decide_eq_true (by first | (with_reducible assumption) | assumption)); have hcdz36 : w33.cell? ⟨gb318, (x7_1 : Int).toNat, none⟩ = some (.bool (rdOf false [x319000_1, x319001_1, x319002_1, x319003_1, x319004_1, x319005_1] x7_1)) := arrC6 BK318.out x7_1 pdz36 qdz36; have hfdz36 := zF BK318.out (x7_1 : Int).toNat; replace pdz36 := eq_true pdz36; replace qdz36 := eq_true qdz36; have hnb37 := NB319_317.out; have hnc37 := NB317_319.out; have pdz38 : 0 ≤ (x7_1 : Int) := (of_decide_eq_true (by first | (with_reducible assumption) | assumption)); have qdz38 : (x7_1 : Int) < 6 := (of_decide_eq_true (by first | (with_reducible assumption) | assumption)); have hcdz38 : w33.cell? ⟨gb319, (x7_1 : Int).toNat, none⟩ = some (.bool (rdOf false [x320000_1, x320001_1, x320002_1, x320003_1, x320004_1, x320005_1] x7_1)) := arrC6 BK319.out x7_1 pdz38 qdz38; have hfdz38 := zF BK319.out (x7_1 : Int).toNat; replace pdz38 := eq_true pdz38; replace qdz38 := eq_true qdz38))
        go_roundg k1
        case measure => have := HK1.out; omega
        case rel => exact ⟨(wrap64 (x7_1 + 1)), (stA x7_1 0 (!t322) x319000_1), (stA x7_1 1 (!t322) x319001_1), (stA x7_1 2 (!t322) x319002_1), (stA x7_1 3 (!t322) x319003_1), (stA x7_1 4 (!t322) x319004_1), (stA x7_1 5 (!t322) x319005_1), (stA x7_1 0 (!t323) x320000_1), (stA x7_1 1 (!t323) x320001_1), (stA x7_1 2 (!t323) x320002_1), (stA x7_1 3 (!t323) x320003_1), (stA x7_1 4 (!t323) x320004_1), (stA x7_1 5 (!t323) x320005_1), (by first | rfl | (simp; done) | (simp [*]; done) | (simp; grind)), H', ⟨by have := HK1.out; omega⟩, ⟨blf_⟩, ⟨blf_⟩, ⟨blf_⟩, ⟨by (with_reducible repeat (first | refine zN ?_ _ | refine zD ?_ | refine zA ?_ _)); refine blk_far ?_ NB318_319.out _; (with_reducible repeat (first | refine zN ?_ _ | refine zD ?_ | refine zA ?_ _)); refine arrP6 ?_ x7_1 (!t322) (of_decide_eq_true (by first | (with_reducible assumption) | assumption)) (of_decide_eq_true (by first | (with_reducible assumption) | assumption)); (with_reducible repeat (first | refine zN ?_ _ | refine zD ?_ | refine zA ?_ _)); exact BK318.out⟩, ⟨by (with_reducible repeat (first | refine zN ?_ _ | refine zD ?_ | refine zA ?_ _)); refine arrP6 ?_ x7_1 (!t323) (of_decide_eq_true (by first | (with_reducible assumption) | assumption)) (of_decide_eq_true (by first | (with_reducible assumption) | assumption)); (with_reducible repeat (first | refine zN ?_ _ | refine zD ?_ | refine zA ?_ _)); refine blk_far ?_ NB319_318.out _; (with_reducible repeat (first | refine zN ?_ _ | refine zD ?_ | refine zA ?_ _)); exact BK319.out⟩, ⟨bel_⟩⟩
      replace c22 := Bool.eq_false_iff.mpr c22
      subst c22
      have H1 : (ropewayref04_Minus.l0 k1 (wrap64 (x7_1 + 1)) a0_0 a0_1 a1_0 a1_1 (stA x7_1 0 (!t322) x319000_1) (stA x7_1 1 (!t322) x319001_1) (stA x7_1 2 (!t322) x319002_1) (stA x7_1 3 (!t322) x319003_1) (stA x7_1 4 (!t322) x319004_1) (stA x7_1 5 (!t322) x319005_1) (stA x7_1 0 false x320000_1) (stA x7_1 1 false x320001_1) (stA x7_1 2 false x320002_1) (stA x7_1 3 false x320003_1) (stA x7_1 4 false x320004_1) (stA x7_1 5 false x320005_1)) = some (r1, r2) := by rw [if_neg (show ¬ (false = true) by decide)] at H; exact H
      clear H
      have H := H1
      clear H1
      have H' := zM H
      clear H
      have hnb39 := NB315_316.out
      have hnc39 := NB316_315.out
      have hnb40 := NB315_317.out
      have hnc40 := NB317_315.out
      have hnb41 := NB315_318.out
      have hnc41 := NB318_315.out
      have hnb42 := NB315_319.out
      have hnc42 := NB319_315.out
      have hcz43_0 : wr.cell? ⟨gb315, 0, none⟩ = some (.int .i64 a0_0) := (zL BK315.out 0).trans rfl
      have hcz43_1 : wr.cell? ⟨gb315, 1, none⟩ = some (.int .i64 a0_1) := (zL BK315.out 1).trans rfl
      have hfz43_0 := zF BK315.out 0
      have hfz43_1 := zF BK315.out 1
      go_wp2_with (first | ((with_reducible refine gate_callee (f := 30) rfl ?_); refine goL_ (some 21) Try.func30 #[.agg #[.int .i64 a0_0, .int .i64 a0_1], .int .i64 x7_1] ?_; (with_reducible refine (ropewayref04_Has.calls k1 a0_0 a0_1 x7_1 true false _ A18.out).mono ?_); rintro e w44 ⟨rfl, hb⟩; refine ⟨_, rfl, ?_⟩; replace BK315 := zM (bb_ BK315 hb); replace BK316 := zM (bb_ BK316 hb); replace BK317 := zM (bb_ BK317 hb); replace BK318 := zM (bb_ BK318 hb); replace BK319 := zM (bb_ BK319 hb); replace HB := zM (zB bel_ hb); (try clear hb); (try clear hb2); (try clear hk); (try clear hi); have hnb45 := NB316_317.out; have hnc45 := NB317_316.out; have hnb46 := NB316_318.out; have hnc46 := NB318_316.out; have hnb47 := NB316_319.out; have hnc47 := NB319_316.out; have hcz48_0 : w44.cell? ⟨gb316, 0, none⟩ = some (.int .i64 a1_0) := (zL BK316.out 0).trans rfl; have hcz48_1 : w44.cell? ⟨gb316, 1, none⟩ = some (.int .i64 a1_1) := (zL BK316.out 1).trans rfl; have hfz48_0 := zF BK316.out 0; have hfz48_1 := zF BK316.out 1) | ((with_reducible refine gate_callee (f := 30) rfl ?_); refine goL_ (some 27) Try.func30 #[.agg #[.int .i64 a1_0, .int .i64 a1_1], .int .i64 x7_1] ?_; (with_reducible refine (ropewayref04_Has.calls k1 a1_0 a1_1 x7_1 t322 t323 _ A19.out).mono ?_); rintro e w49 ⟨rfl, hb⟩; refine ⟨_, rfl, ?_⟩; replace BK315 := zM (bb_ BK315 hb); replace BK316 := zM (bb_ BK316 hb); replace BK317 := zM (bb_ BK317 hb); replace BK318 := zM (bb_ BK318 hb); replace BK319 := zM (bb_ BK319 hb); replace HB := zM (zB bel_ hb); (try clear hb); (try clear hb2); (try clear hk); (try clear hi); have hnb50 := NB318_317.out; have hnc50 := NB317_318.out; have hnb51 := NB318_319.out; have hnc51 := NB319_318.out; have pdz52 : 0 ≤ (x7_1 : Int) := (of_decide_eq_true (by first | (with_reducible assumption) | assumption)); have qdz52 : (x7_1 : Int) < 6 := (of_decide_eq_true (by first | (with_reducible assumption) | assumption)); have hcdz52 : w49.cell? ⟨gb318, (x7_1 : Int).toNat, none⟩ = some (.bool (rdOf false [x319000_1, x319001_1, x319002_1, x319003_1, x319004_1, x319005_1] x7_1)) := arrC6 BK318.out x7_1 pdz52 qdz52; have hfdz52 := zF BK318.out (x7_1 : Int).toNat; replace pdz52 := eq_true pdz52; replace qdz52 := eq_true qdz52; have hnb53 := NB319_317.out; have hnc53 := NB317_319.out; have pdz54 : 0 ≤ (x7_1 : Int) := (of_decide_eq_true (by first | (with_reducible assumption) | assumption)); have qdz54 : (x7_1 : Int) < 6 := (of_decide_eq_true (by first | (with_reducible assumption) | assumption)); have hcdz54 : w49.cell? ⟨gb319, (x7_1 : Int).toNat, none⟩ = some (.bool (rdOf false [x320000_1, x320001_1, x320002_1, x320003_1, x320004_1, x320005_1] x7_1)) := arrC6 BK319.out x7_1 pdz54 qdz54; have hfdz54 := zF BK319.out (x7_1 : Int).toNat; replace pdz54 := eq_true pdz54; replace qdz54 := eq_true qdz54))
      go_roundg k1
      case measure => have := HK1.out; omega
      case rel => exact ⟨(wrap64 (x7_1 + 1)), (stA x7_1 0 (!t322) x319000_1), (stA x7_1 1 (!t322) x319001_1), (stA x7_1 2 (!t322) x319002_1), (stA x7_1 3 (!t322) x319003_1), (stA x7_1 4 (!t322) x319004_1), (stA x7_1 5 (!t322) x319005_1), (stA x7_1 0 false x320000_1), (stA x7_1 1 false x320001_1), (stA x7_1 2 false x320002_1), (stA x7_1 3 false x320003_1), (stA x7_1 4 false x320004_1), (stA x7_1 5 false x320005_1), (by first | rfl | (simp; done) | (simp [*]; done) | (simp; grind)), H', ⟨by have := HK1.out; omega⟩, ⟨blf_⟩, ⟨blf_⟩, ⟨blf_⟩, ⟨by (with_reducible repeat (first | refine zN ?_ _ | refine zD ?_ | refine zA ?_ _)); refine blk_far ?_ NB318_319.out _; (with_reducible repeat (first | refine zN ?_ _ | refine zD ?_ | refine zA ?_ _)); refine arrP6 ?_ x7_1 (!t322) (of_decide_eq_true (by first | (with_reducible assumption) | assumption)) (of_decide_eq_true (by first | (with_reducible assumption) | assumption)); (with_reducible repeat (first | refine zN ?_ _ | refine zD ?_ | refine zA ?_ _)); exact BK318.out⟩, ⟨by (with_reducible repeat (first | refine zN ?_ _ | refine zD ?_ | refine zA ?_ _)); refine arrP6 ?_ x7_1 false (of_decide_eq_true (by first | (with_reducible assumption) | assumption)) (of_decide_eq_true (by first | (with_reducible assumption) | assumption)); (with_reducible repeat (first | refine zN ?_ _ | refine zD ?_ | refine zA ?_ _)); refine blk_far ?_ NB319_318.out _; (with_reducible repeat (first | refine zN ?_ _ | refine zD ?_ | refine zA ?_ _)); exact BK319.out⟩, ⟨bel_⟩⟩
    replace c20 := Bool.eq_false_iff.mpr c20
    subst c20
    have H1 : (if 0 ≤ x7_1 then (if t321 = true then (ropewayref04_Minus.l0 k1 (wrap64 (x7_1 + 1)) a0_0 a0_1 a1_0 a1_1 (stA x7_1 0 false x319000_1) (stA x7_1 1 false x319001_1) (stA x7_1 2 false x319002_1) (stA x7_1 3 false x319003_1) (stA x7_1 4 false x319004_1) (stA x7_1 5 false x319005_1) (stA x7_1 0 (!t323) x320000_1) (stA x7_1 1 (!t323) x320001_1) (stA x7_1 2 (!t323) x320002_1) (stA x7_1 3 (!t323) x320003_1) (stA x7_1 4 (!t323) x320004_1) (stA x7_1 5 (!t323) x320005_1)) else (ropewayref04_Minus.l0 k1 (wrap64 (x7_1 + 1)) a0_0 a0_1 a1_0 a1_1 (stA x7_1 0 false x319000_1) (stA x7_1 1 false x319001_1) (stA x7_1 2 false x319002_1) (stA x7_1 3 false x319003_1) (stA x7_1 4 false x319004_1) (stA x7_1 5 false x319005_1) (stA x7_1 0 false x320000_1) (stA x7_1 1 false x320001_1) (stA x7_1 2 false x320002_1) (stA x7_1 3 false x320003_1) (stA x7_1 4 false x320004_1) (stA x7_1 5 false x320005_1))) else (none)) = some (r1, r2) := by rw [if_neg (show ¬ (false = true) by decide)] at H; exact H
    clear H
    have H := H1
    clear H1
    by_cases c55 : 0 ≤ x7_1
    rotate_left
    · rw [if_neg c55] at H
      exact absurd H (by simp)
    rw [if_pos c55] at H
    have c55b0 : decide (0 ≤ x7_1) = true := decide_eq_true c55
    clear c55
    by_cases c56 : t321 = true
    · subst c56
      have H1 : (ropewayref04_Minus.l0 k1 (wrap64 (x7_1 + 1)) a0_0 a0_1 a1_0 a1_1 (stA x7_1 0 false x319000_1) (stA x7_1 1 false x319001_1) (stA x7_1 2 false x319002_1) (stA x7_1 3 false x319003_1) (stA x7_1 4 false x319004_1) (stA x7_1 5 false x319005_1) (stA x7_1 0 (!t323) x320000_1) (stA x7_1 1 (!t323) x320001_1) (stA x7_1 2 (!t323) x320002_1) (stA x7_1 3 (!t323) x320003_1) (stA x7_1 4 (!t323) x320004_1) (stA x7_1 5 (!t323) x320005_1)) = some (r1, r2) := by rw [if_pos rfl] at H; exact H
      clear H
      have H := H1
      clear H1
      have H' := zM H
      clear H
      have hnb57 := NB315_316.out
      have hnc57 := NB316_315.out
      have hnb58 := NB315_317.out
      have hnc58 := NB317_315.out
      have hnb59 := NB315_318.out
      have hnc59 := NB318_315.out
      have hnb60 := NB315_319.out
      have hnc60 := NB319_315.out
      have hcz61_0 : wr.cell? ⟨gb315, 0, none⟩ = some (.int .i64 a0_0) := (zL BK315.out 0).trans rfl
      have hcz61_1 : wr.cell? ⟨gb315, 1, none⟩ = some (.int .i64 a0_1) := (zL BK315.out 1).trans rfl
      have hfz61_0 := zF BK315.out 0
      have hfz61_1 := zF BK315.out 1
      go_wp2_with (first | ((with_reducible refine gate_callee (f := 30) rfl ?_); refine goL_ (some 21) Try.func30 #[.agg #[.int .i64 a0_0, .int .i64 a0_1], .int .i64 x7_1] ?_; (with_reducible refine (ropewayref04_Has.calls k1 a0_0 a0_1 x7_1 false true _ A18.out).mono ?_); rintro e w62 ⟨rfl, hb⟩; refine ⟨_, rfl, ?_⟩; replace BK315 := zM (bb_ BK315 hb); replace BK316 := zM (bb_ BK316 hb); replace BK317 := zM (bb_ BK317 hb); replace BK318 := zM (bb_ BK318 hb); replace BK319 := zM (bb_ BK319 hb); replace HB := zM (zB bel_ hb); (try clear hb); (try clear hb2); (try clear hk); (try clear hi); have hnb63 := NB316_317.out; have hnc63 := NB317_316.out; have hnb64 := NB316_318.out; have hnc64 := NB318_316.out; have hnb65 := NB316_319.out; have hnc65 := NB319_316.out; have hcz66_0 : w62.cell? ⟨gb316, 0, none⟩ = some (.int .i64 a1_0) := (zL BK316.out 0).trans rfl; have hcz66_1 : w62.cell? ⟨gb316, 1, none⟩ = some (.int .i64 a1_1) := (zL BK316.out 1).trans rfl; have hfz66_0 := zF BK316.out 0; have hfz66_1 := zF BK316.out 1) | ((with_reducible refine gate_callee (f := 30) rfl ?_); refine goL_ (some 27) Try.func30 #[.agg #[.int .i64 a1_0, .int .i64 a1_1], .int .i64 x7_1] ?_; (with_reducible refine (ropewayref04_Has.calls k1 a1_0 a1_1 x7_1 t322 t323 _ A19.out).mono ?_); rintro e w67 ⟨rfl, hb⟩; refine ⟨_, rfl, ?_⟩; replace BK315 := zM (bb_ BK315 hb); replace BK316 := zM (bb_ BK316 hb); replace BK317 := zM (bb_ BK317 hb); replace BK318 := zM (bb_ BK318 hb); replace BK319 := zM (bb_ BK319 hb); replace HB := zM (zB bel_ hb); (try clear hb); (try clear hb2); (try clear hk); (try clear hi); have hnb68 := NB318_317.out; have hnc68 := NB317_318.out; have hnb69 := NB318_319.out; have hnc69 := NB319_318.out; have pdz70 : 0 ≤ (x7_1 : Int) := (of_decide_eq_true (by first | (with_reducible assumption) | assumption)); have qdz70 : (x7_1 : Int) < 6 := (of_decide_eq_true (by first | (with_reducible assumption) | assumption)); have hcdz70 : w67.cell? ⟨gb318, (x7_1 : Int).toNat, none⟩ = some (.bool (rdOf false [x319000_1, x319001_1, x319002_1, x319003_1, x319004_1, x319005_1] x7_1)) := arrC6 BK318.out x7_1 pdz70 qdz70; have hfdz70 := zF BK318.out (x7_1 : Int).toNat; replace pdz70 := eq_true pdz70; replace qdz70 := eq_true qdz70; have hnb71 := NB319_317.out; have hnc71 := NB317_319.out; have pdz72 : 0 ≤ (x7_1 : Int) := (of_decide_eq_true (by first | (with_reducible assumption) | assumption)); have qdz72 : (x7_1 : Int) < 6 := (of_decide_eq_true (by first | (with_reducible assumption) | assumption)); have hcdz72 : w67.cell? ⟨gb319, (x7_1 : Int).toNat, none⟩ = some (.bool (rdOf false [x320000_1, x320001_1, x320002_1, x320003_1, x320004_1, x320005_1] x7_1)) := arrC6 BK319.out x7_1 pdz72 qdz72; have hfdz72 := zF BK319.out (x7_1 : Int).toNat; replace pdz72 := eq_true pdz72; replace qdz72 := eq_true qdz72))
      go_roundg k1
      case measure => have := HK1.out; omega
      case rel => exact ⟨(wrap64 (x7_1 + 1)), (stA x7_1 0 false x319000_1), (stA x7_1 1 false x319001_1), (stA x7_1 2 false x319002_1), (stA x7_1 3 false x319003_1), (stA x7_1 4 false x319004_1), (stA x7_1 5 false x319005_1), (stA x7_1 0 (!t323) x320000_1), (stA x7_1 1 (!t323) x320001_1), (stA x7_1 2 (!t323) x320002_1), (stA x7_1 3 (!t323) x320003_1), (stA x7_1 4 (!t323) x320004_1), (stA x7_1 5 (!t323) x320005_1), (by first | rfl | (simp; done) | (simp [*]; done) | (simp; grind)), H', ⟨by have := HK1.out; omega⟩, ⟨blf_⟩, ⟨blf_⟩, ⟨blf_⟩, ⟨by (with_reducible repeat (first | refine zN ?_ _ | refine zD ?_ | refine zA ?_ _)); refine blk_far ?_ NB318_319.out _; (with_reducible repeat (first | refine zN ?_ _ | refine zD ?_ | refine zA ?_ _)); refine arrP6 ?_ x7_1 false (of_decide_eq_true (by first | (with_reducible assumption) | assumption)) (of_decide_eq_true (by first | (with_reducible assumption) | assumption)); (with_reducible repeat (first | refine zN ?_ _ | refine zD ?_ | refine zA ?_ _)); exact BK318.out⟩, ⟨by (with_reducible repeat (first | refine zN ?_ _ | refine zD ?_ | refine zA ?_ _)); refine arrP6 ?_ x7_1 (!t323) (of_decide_eq_true (by first | (with_reducible assumption) | assumption)) (of_decide_eq_true (by first | (with_reducible assumption) | assumption)); (with_reducible repeat (first | refine zN ?_ _ | refine zD ?_ | refine zA ?_ _)); refine blk_far ?_ NB319_318.out _; (with_reducible repeat (first | refine zN ?_ _ | refine zD ?_ | refine zA ?_ _)); exact BK319.out⟩, ⟨bel_⟩⟩
    replace c56 := Bool.eq_false_iff.mpr c56
    subst c56
    have H1 : (ropewayref04_Minus.l0 k1 (wrap64 (x7_1 + 1)) a0_0 a0_1 a1_0 a1_1 (stA x7_1 0 false x319000_1) (stA x7_1 1 false x319001_1) (stA x7_1 2 false x319002_1) (stA x7_1 3 false x319003_1) (stA x7_1 4 false x319004_1) (stA x7_1 5 false x319005_1) (stA x7_1 0 false x320000_1) (stA x7_1 1 false x320001_1) (stA x7_1 2 false x320002_1) (stA x7_1 3 false x320003_1) (stA x7_1 4 false x320004_1) (stA x7_1 5 false x320005_1)) = some (r1, r2) := by rw [if_neg (show ¬ (false = true) by decide)] at H; exact H
    clear H
    have H := H1
    clear H1
    have H' := zM H
    clear H
    have hnb73 := NB315_316.out
    have hnc73 := NB316_315.out
    have hnb74 := NB315_317.out
    have hnc74 := NB317_315.out
    have hnb75 := NB315_318.out
    have hnc75 := NB318_315.out
    have hnb76 := NB315_319.out
    have hnc76 := NB319_315.out
    have hcz77_0 : wr.cell? ⟨gb315, 0, none⟩ = some (.int .i64 a0_0) := (zL BK315.out 0).trans rfl
    have hcz77_1 : wr.cell? ⟨gb315, 1, none⟩ = some (.int .i64 a0_1) := (zL BK315.out 1).trans rfl
    have hfz77_0 := zF BK315.out 0
    have hfz77_1 := zF BK315.out 1
    go_wp2_with (first | ((with_reducible refine gate_callee (f := 30) rfl ?_); refine goL_ (some 21) Try.func30 #[.agg #[.int .i64 a0_0, .int .i64 a0_1], .int .i64 x7_1] ?_; (with_reducible refine (ropewayref04_Has.calls k1 a0_0 a0_1 x7_1 false false _ A18.out).mono ?_); rintro e w78 ⟨rfl, hb⟩; refine ⟨_, rfl, ?_⟩; replace BK315 := zM (bb_ BK315 hb); replace BK316 := zM (bb_ BK316 hb); replace BK317 := zM (bb_ BK317 hb); replace BK318 := zM (bb_ BK318 hb); replace BK319 := zM (bb_ BK319 hb); replace HB := zM (zB bel_ hb); (try clear hb); (try clear hb2); (try clear hk); (try clear hi); have hnb79 := NB316_317.out; have hnc79 := NB317_316.out; have hnb80 := NB316_318.out; have hnc80 := NB318_316.out; have hnb81 := NB316_319.out; have hnc81 := NB319_316.out; have hcz82_0 : w78.cell? ⟨gb316, 0, none⟩ = some (.int .i64 a1_0) := (zL BK316.out 0).trans rfl; have hcz82_1 : w78.cell? ⟨gb316, 1, none⟩ = some (.int .i64 a1_1) := (zL BK316.out 1).trans rfl; have hfz82_0 := zF BK316.out 0; have hfz82_1 := zF BK316.out 1) | ((with_reducible refine gate_callee (f := 30) rfl ?_); refine goL_ (some 27) Try.func30 #[.agg #[.int .i64 a1_0, .int .i64 a1_1], .int .i64 x7_1] ?_; (with_reducible refine (ropewayref04_Has.calls k1 a1_0 a1_1 x7_1 t322 t323 _ A19.out).mono ?_); rintro e w83 ⟨rfl, hb⟩; refine ⟨_, rfl, ?_⟩; replace BK315 := zM (bb_ BK315 hb); replace BK316 := zM (bb_ BK316 hb); replace BK317 := zM (bb_ BK317 hb); replace BK318 := zM (bb_ BK318 hb); replace BK319 := zM (bb_ BK319 hb); replace HB := zM (zB bel_ hb); (try clear hb); (try clear hb2); (try clear hk); (try clear hi); have hnb84 := NB318_317.out; have hnc84 := NB317_318.out; have hnb85 := NB318_319.out; have hnc85 := NB319_318.out; have pdz86 : 0 ≤ (x7_1 : Int) := (of_decide_eq_true (by first | (with_reducible assumption) | assumption)); have qdz86 : (x7_1 : Int) < 6 := (of_decide_eq_true (by first | (with_reducible assumption) | assumption)); have hcdz86 : w83.cell? ⟨gb318, (x7_1 : Int).toNat, none⟩ = some (.bool (rdOf false [x319000_1, x319001_1, x319002_1, x319003_1, x319004_1, x319005_1] x7_1)) := arrC6 BK318.out x7_1 pdz86 qdz86; have hfdz86 := zF BK318.out (x7_1 : Int).toNat; replace pdz86 := eq_true pdz86; replace qdz86 := eq_true qdz86; have hnb87 := NB319_317.out; have hnc87 := NB317_319.out; have pdz88 : 0 ≤ (x7_1 : Int) := (of_decide_eq_true (by first | (with_reducible assumption) | assumption)); have qdz88 : (x7_1 : Int) < 6 := (of_decide_eq_true (by first | (with_reducible assumption) | assumption)); have hcdz88 : w83.cell? ⟨gb319, (x7_1 : Int).toNat, none⟩ = some (.bool (rdOf false [x320000_1, x320001_1, x320002_1, x320003_1, x320004_1, x320005_1] x7_1)) := arrC6 BK319.out x7_1 pdz88 qdz88; have hfdz88 := zF BK319.out (x7_1 : Int).toNat; replace pdz88 := eq_true pdz88; replace qdz88 := eq_true qdz88))
    go_roundg k1
    case measure => have := HK1.out; omega
    case rel => exact ⟨(wrap64 (x7_1 + 1)), (stA x7_1 0 false x319000_1), (stA x7_1 1 false x319001_1), (stA x7_1 2 false x319002_1), (stA x7_1 3 false x319003_1), (stA x7_1 4 false x319004_1), (stA x7_1 5 false x319005_1), (stA x7_1 0 false x320000_1), (stA x7_1 1 false x320001_1), (stA x7_1 2 false x320002_1), (stA x7_1 3 false x320003_1), (stA x7_1 4 false x320004_1), (stA x7_1 5 false x320005_1), (by first | rfl | (simp; done) | (simp [*]; done) | (simp; grind)), H', ⟨by have := HK1.out; omega⟩, ⟨blf_⟩, ⟨blf_⟩, ⟨blf_⟩, ⟨by (with_reducible repeat (first | refine zN ?_ _ | refine zD ?_ | refine zA ?_ _)); refine blk_far ?_ NB318_319.out _; (with_reducible repeat (first | refine zN ?_ _ | refine zD ?_ | refine zA ?_ _)); refine arrP6 ?_ x7_1 false (of_decide_eq_true (by first | (with_reducible assumption) | assumption)) (of_decide_eq_true (by first | (with_reducible assumption) | assumption)); (with_reducible repeat (first | refine zN ?_ _ | refine zD ?_ | refine zA ?_ _)); exact BK318.out⟩, ⟨by (with_reducible repeat (first | refine zN ?_ _ | refine zD ?_ | refine zA ?_ _)); refine arrP6 ?_ x7_1 false (of_decide_eq_true (by first | (with_reducible assumption) | assumption)) (of_decide_eq_true (by first | (with_reducible assumption) | assumption)); (with_reducible repeat (first | refine zN ?_ _ | refine zD ?_ | refine zA ?_ _)); refine blk_far ?_ NB319_318.out _; (with_reducible repeat (first | refine zN ?_ _ | refine zD ?_ | refine zA ?_ _)); exact BK319.out⟩, ⟨bel_⟩⟩
end Go.Proofs.Ytjfmhahlmnnacaa.PFrontSteps
