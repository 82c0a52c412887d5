/- Written by a program of this session (wip/tool/px.py) over the kit's print: what the code that the law FrontSteps reaches computes, function by function, and the law's row. -/
import Derived.Test.YtjfmhahlmnnacaaPFrontStepsx0
import Derived.Test.YtjfmhahlmnnacaaPFrontStepsx1
import Derived.Test.YtjfmhahlmnnacaaPFrontStepsx6
namespace Go.Proofs.Ytjfmhahlmnnacaa.PFrontSteps
open Go.RowKit Go.Proofs.YtjfmhahlmnnacaaX Go.Proofs.YtjfmhahlmnnacaaW.PrintWords Go.Proofs.YtjfmhahlmnnacaaW.PrintLast Go.Proofs.YtjfmhahlmnnacaaW.PrintMore
open List renaming setIfInBounds_toArray → zS, set_cons_zero → zZ, set_cons_succ → zC
open Go.Proofs.YtjfmhahlmnnacaaW.PrintWords renaming blk_drewN → zN, blk_drew → zD, blk_alloc → zA, blk_cell → zL, blk_frozen → zF, below_step → zB
open Go.Proofs.YtjfmhahlmnnacaaW.PrintWords.Aside0 renaming mk → zM
attribute [local go_sem] max2_int min2_int max_two min_two max_three min_three max_four min_four   -- for this text's walks alone
set_option linter.unusedVariables false
set_option linter.unusedSimpArgs false

attribute [local go_sem] px_nilq22
attribute [local go_sem high] eqA24
/-! ### ropewayref04_Join: function 25 -/
mutual
def ropewayref04_Join.l0 : Nat → List (S24) → Int → Int → Bool → Bool → Bool → Bool → Bool → Bool → Bool → Bool → Bool → Bool → Bool → Bool → Option (Int × Int)
  | 0, _, _, _, _, _, _, _, _, _, _, _, _, _, _, _ => none
  | k + 1, x12, x13, x14, x234000, x234001, x234002, x234003, x234004, x234005, x235000, x235001, x235002, x235003, x235004, x235005 => if x14 < x13 then (if 0 ≤ x14 then (if x14 < (x12.length : Int) then (ropewayref04_Join.l1 k 0 x12 x13 x14 x234000 x234001 x234002 x234003 x234004 x234005 x235000 x235001 x235002 x235003 x235004 x235005 ((rd_T24 x12 x14).f0) ((rd_T24 x12 x14).f1)) else (none)) else (none)) else ((ropewayref04_set.f k x234000 x234001 x234002 x234003 x234004 x234005 x235000 x235001 x235002 x235003 x235004 x235005).bind fun bt235 => (some (bt235.1, bt235.2)))
def ropewayref04_Join.l1 : Nat → Int → List (S24) → Int → Int → Bool → Bool → Bool → Bool → Bool → Bool → Bool → Bool → Bool → Bool → Bool → Bool → Int → Int → Option (Int × Int)
  | 0, _, _, _, _, _, _, _, _, _, _, _, _, _, _, _, _, _, _ => none
  | k + 1, x7, x12, x13, x14, x234000, x234001, x234002, x234003, x234004, x234005, x235000, x235001, x235002, x235003, x235004, x235005, x239000, x239001 => if x7 < 6 then ((ropewayref04_Has.f k x239000 x239001 x7).bind fun bt239 => (if 0 ≤ x7 then (if rdOf false [x234000, x234001, x234002, x234003, x234004, x234005] x7 = true then (if rdOf false [x235000, x235001, x235002, x235003, x235004, x235005] x7 = true then (ropewayref04_Join.l1 k (wrap64 (x7 + 1)) x12 x13 x14 (stA x7 0 true x234000) (stA x7 1 true x234001) (stA x7 2 true x234002) (stA x7 3 true x234003) (stA x7 4 true x234004) (stA x7 5 true x234005) (stA x7 0 true x235000) (stA x7 1 true x235001) (stA x7 2 true x235002) (stA x7 3 true x235003) (stA x7 4 true x235004) (stA x7 5 true x235005) x239000 x239001) else (ropewayref04_Join.l1 k (wrap64 (x7 + 1)) x12 x13 x14 (stA x7 0 true x234000) (stA x7 1 true x234001) (stA x7 2 true x234002) (stA x7 3 true x234003) (stA x7 4 true x234004) (stA x7 5 true x234005) (stA x7 0 bt239.2 x235000) (stA x7 1 bt239.2 x235001) (stA x7 2 bt239.2 x235002) (stA x7 3 bt239.2 x235003) (stA x7 4 bt239.2 x235004) (stA x7 5 bt239.2 x235005) x239000 x239001)) else (if rdOf false [x235000, x235001, x235002, x235003, x235004, x235005] x7 = true then (ropewayref04_Join.l1 k (wrap64 (x7 + 1)) x12 x13 x14 (stA x7 0 bt239.1 x234000) (stA x7 1 bt239.1 x234001) (stA x7 2 bt239.1 x234002) (stA x7 3 bt239.1 x234003) (stA x7 4 bt239.1 x234004) (stA x7 5 bt239.1 x234005) (stA x7 0 true x235000) (stA x7 1 true x235001) (stA x7 2 true x235002) (stA x7 3 true x235003) (stA x7 4 true x235004) (stA x7 5 true x235005) x239000 x239001) else (ropewayref04_Join.l1 k (wrap64 (x7 + 1)) x12 x13 x14 (stA x7 0 bt239.1 x234000) (stA x7 1 bt239.1 x234001) (stA x7 2 bt239.1 x234002) (stA x7 3 bt239.1 x234003) (stA x7 4 bt239.1 x234004) (stA x7 5 bt239.1 x234005) (stA x7 0 bt239.2 x235000) (stA x7 1 bt239.2 x235001) (stA x7 2 bt239.2 x235002) (stA x7 3 bt239.2 x235003) (stA x7 4 bt239.2 x235004) (stA x7 5 bt239.2 x235005) x239000 x239001))) else (none))) else (ropewayref04_Join.l0 k x12 x13 (wrap64 (x14 + 1)) x234000 x234001 x234002 x234003 x234004 x234005 x235000 x235001 x235002 x235003 x235004 x235005)
end
def ropewayref04_Join.f (k : Nat) (l0 : List (S24)) : Option (Int × Int) := ropewayref04_Join.l0 k l0 (l0.length : Int) 0 false false false false false false false false false false false false
theorem ropewayref04_Join.mono_l : ∀ k, (∀ y0 y1 y2 y3 y4 y5 y6 y7 y8 y9 y10 y11 y12 y13 y14, LeO (ropewayref04_Join.l0 k y0 y1 y2 y3 y4 y5 y6 y7 y8 y9 y10 y11 y12 y13 y14) (ropewayref04_Join.l0 (k + 1) y0 y1 y2 y3 y4 y5 y6 y7 y8 y9 y10 y11 y12 y13 y14)) ∧ (∀ y0 y1 y2 y3 y4 y5 y6 y7 y8 y9 y10 y11 y12 y13 y14 y15 y16 y17, LeO (ropewayref04_Join.l1 k y0 y1 y2 y3 y4 y5 y6 y7 y8 y9 y10 y11 y12 y13 y14 y15 y16 y17) (ropewayref04_Join.l1 (k + 1) y0 y1 y2 y3 y4 y5 y6 y7 y8 y9 y10 y11 y12 y13 y14 y15 y16 y17))
  | 0 => ⟨fun _ _ _ _ _ _ _ _ _ _ _ _ _ _ _ r h => by simp [ropewayref04_Join.l0] at h, fun _ _ _ _ _ _ _ _ _ _ _ _ _ _ _ _ _ _ r h => by simp [ropewayref04_Join.l1] at h⟩
  | k + 1 => by
    obtain ⟨ih0, ih1⟩ := ropewayref04_Join.mono_l k
    refine ⟨?_, ?_⟩
    · intro y0 y1 y2 y3 y4 y5 y6 y7 y8 y9 y10 y11 y12 y13 y14
      unfold ropewayref04_Join.l0
      repeat' first
      | (with_reducible exact ih0 _ _ _ _ _ _ _ _ _ _ _ _ _ _ _)
      | (with_reducible exact ih1 _ _ _ _ _ _ _ _ _ _ _ _ _ _ _ _ _ _)
      | (with_reducible exact ropewayref04_Has.mono _ _ _ _)
      | (with_reducible exact ropewayref04_set.mono _ _ _ _ _ _ _ _ _ _ _ _ _)
      | (with_reducible exact LeO.refl _)
      | (with_reducible exact LeO.none _)
      | (with_reducible refine LeO.ite ?_ ?_)
      | (with_reducible refine LeO.bind ?_ (fun _ => ?_))
      | exact ih0 _ _ _ _ _ _ _ _ _ _ _ _ _ _ _
      | exact ih1 _ _ _ _ _ _ _ _ _ _ _ _ _ _ _ _ _ _
      | exact ropewayref04_Has.mono _ _ _ _
      | exact ropewayref04_set.mono _ _ _ _ _ _ _ _ _ _ _ _ _
      | exact LeO.none _
      | refine LeO.ite ?_ ?_
      | refine LeO.bind ?_ (fun _ => ?_)
    · intro y0 y1 y2 y3 y4 y5 y6 y7 y8 y9 y10 y11 y12 y13 y14 y15 y16 y17
      unfold ropewayref04_Join.l1
      repeat' first
      | (with_reducible exact ih0 _ _ _ _ _ _ _ _ _ _ _ _ _ _ _)
      | (with_reducible exact ih1 _ _ _ _ _ _ _ _ _ _ _ _ _ _ _ _ _ _)
      | (with_reducible exact ropewayref04_Has.mono _ _ _ _)
      | (with_reducible exact ropewayref04_set.mono _ _ _ _ _ _ _ _ _ _ _ _ _)
      | (with_reducible exact LeO.refl _)
      | (with_reducible exact LeO.none _)
      | (with_reducible refine LeO.ite ?_ ?_)
      | (with_reducible refine LeO.bind ?_ (fun _ => ?_))
      | exact ih0 _ _ _ _ _ _ _ _ _ _ _ _ _ _ _
      | exact ih1 _ _ _ _ _ _ _ _ _ _ _ _ _ _ _ _ _ _
      | exact ropewayref04_Has.mono _ _ _ _
      | exact ropewayref04_set.mono _ _ _ _ _ _ _ _ _ _ _ _ _
      | exact LeO.none _
      | refine LeO.ite ?_ ?_
      | refine LeO.bind ?_ (fun _ => ?_)
theorem ropewayref04_Join.mono : ∀ a0 k, LeO (ropewayref04_Join.f k a0) (ropewayref04_Join.f (k + 1) a0) := by
  intro a0 k
  obtain ⟨ih0, ih1⟩ := ropewayref04_Join.mono_l k
  unfold ropewayref04_Join.f
  repeat' first
      | (with_reducible exact ih0 _ _ _ _ _ _ _ _ _ _ _ _ _ _ _)
      | (with_reducible exact ih1 _ _ _ _ _ _ _ _ _ _ _ _ _ _ _ _ _ _)
      | (with_reducible exact ropewayref04_Has.mono _ _ _ _)
      | (with_reducible exact ropewayref04_set.mono _ _ _ _ _ _ _ _ _ _ _ _ _)
      | (with_reducible exact LeO.refl _)
      | (with_reducible exact LeO.none _)
      | (with_reducible refine LeO.ite ?_ ?_)
      | (with_reducible refine LeO.bind ?_ (fun _ => ?_))
      | exact ih0 _ _ _ _ _ _ _ _ _ _ _ _ _ _ _
      | exact ih1 _ _ _ _ _ _ _ _ _ _ _ _ _ _ _ _ _ _
      | exact ropewayref04_Has.mono _ _ _ _
      | exact ropewayref04_set.mono _ _ _ _ _ _ _ _ _ _ _ _ _
      | exact LeO.none _
      | refine LeO.ite ?_ ?_
      | refine LeO.bind ?_ (fun _ => ?_)
set_option maxHeartbeats 8000000 in
set_option maxRecDepth 100000 in
theorem ropewayref04_Join.calls (k : Nat) (A0 : Option Addr) (c0 : Nat) (l0 : List (S24)) (r1 : Int) (r2 : Int) (w : World) (hr0 : Kd.C k24 w A0 l0.length l0) (hc0 : l0.length ≤ c0) (h : ropewayref04_Join.f k l0 = some (r1, r2)) :
    Calls Try.prog 25 #[.slice A0 l0.length c0] w fun e w' => e = .returned (.agg #[.int .i64 r1, .int .i64 r2]) ∧ Below w.heap.size w w' := by
  have hu24 := Try.underlying24
  have hu55 := Try.underlying55
  have HR0 := zM hr0
  have HC0 := zM hc0
  clear hr0 hc0
  have HB := zM (Below.refl w.heap.size w)
  have H : (ropewayref04_Join.l0 k l0 (l0.length : Int) 0 false false false false false false false false false false false false) = some (r1, r2) := h
  clear h
  have H' := zM H
  clear H
  go_enter Try.func25, Try.ntmps25
  go_wp2_with (first | ((with_reducible refine gate_dst (N := 2) rfl ?_); refine box_event ?hg (N := 2) ?hd (cs := #[.int .i64 0, .int .i64 0]) (t := 24) ?hr ?_; (case hd => rfl); (case hg => rfl); (case hr => first | (go_simp; done) | (go_simp; rfl)); intro gb232 hg w2 hbox hb; have BK232 := zM (hbox); have GW232 := zM (bs_ hg); have GE232 := zM (bs_ hg); replace HB := zM (zB bel_ hb); clear hb hbox hg) | ((with_reducible refine gate_dst (N := 3) rfl ?_); refine box_event ?hg (N := 3) ?hd (cs := #[.bool false, .bool false, .bool false, .bool false, .bool false, .bool false]) (t := 55) ?hr ?_; (case hd => rfl); (case hg => rfl); (case hr => first | (go_simp; done) | (go_simp; rfl)); intro gb233 hg w3 hbox hb; have BK233 := zM (hbox); have GW233 := zM (bs_ hg); have GE233 := zM (bs_ hg); replace HB := zM (zB bel_ hb); have NB232_233 := zM (nl_ BK232 hg); have NB233_232 := zM (ng_ BK232 hg); replace BK232 := zM (bb_ BK232 hb); clear hb hbox hg) | ((with_reducible refine gate_dst (N := 4) rfl ?_); refine box_event ?hg (N := 4) ?hd (cs := #[.bool false, .bool false, .bool false, .bool false, .bool false, .bool false]) (t := 55) ?hr ?_; (case hd => rfl); (case hg => rfl); (case hr => first | (go_simp; done) | (go_simp; rfl)); intro gb234 hg w4 hbox hb; have BK234 := zM (hbox); have GW234 := zM (bs_ hg); have GE234 := zM (bs_ hg); replace HB := zM (zB bel_ hb); have NB232_234 := zM (nl_ BK232 hg); have NB234_232 := zM (ng_ BK232 hg); replace BK232 := zM (bb_ BK232 hb); have NB233_234 := zM (nl_ BK233 hg); have NB234_233 := zM (ng_ BK233 hg); replace BK233 := zM (bb_ BK233 hb); clear hb hbox hg; have hnb5 := NB233_232.out; have hnc5 := NB232_233.out; have hnb6 := NB233_234.out; have hnc6 := NB234_233.out; have hcz7_0 : w4.cell? ⟨gb233, 0, none⟩ = some (.bool false) := (zL BK233.out 0).trans rfl; have hcz7_1 : w4.cell? ⟨gb233, 1, none⟩ = some (.bool false) := (zL BK233.out 1).trans rfl; have hcz7_2 : w4.cell? ⟨gb233, 2, none⟩ = some (.bool false) := (zL BK233.out 2).trans rfl; have hcz7_3 : w4.cell? ⟨gb233, 3, none⟩ = some (.bool false) := (zL BK233.out 3).trans rfl; have hcz7_4 : w4.cell? ⟨gb233, 4, none⟩ = some (.bool false) := (zL BK233.out 4).trans rfl; have hcz7_5 : w4.cell? ⟨gb233, 5, none⟩ = some (.bool false) := (zL BK233.out 5).trans rfl; have hfz7_0 := zF BK233.out 0; have hfz7_1 := zF BK233.out 1; have hfz7_2 := zF BK233.out 2; have hfz7_3 := zF BK233.out 3; have hfz7_4 := zF BK233.out 4; have hfz7_5 := zF BK233.out 5; have hnb8 := NB234_232.out; have hnc8 := NB232_234.out; have hcz9_0 : w4.cell? ⟨gb234, 0, none⟩ = some (.bool false) := (zL BK234.out 0).trans rfl; have hcz9_1 : w4.cell? ⟨gb234, 1, none⟩ = some (.bool false) := (zL BK234.out 1).trans rfl; have hcz9_2 : w4.cell? ⟨gb234, 2, none⟩ = some (.bool false) := (zL BK234.out 2).trans rfl; have hcz9_3 : w4.cell? ⟨gb234, 3, none⟩ = some (.bool false) := (zL BK234.out 3).trans rfl; have hcz9_4 : w4.cell? ⟨gb234, 4, none⟩ = some (.bool false) := (zL BK234.out 4).trans rfl; have hcz9_5 : w4.cell? ⟨gb234, 5, none⟩ = some (.bool false) := (zL BK234.out 5).trans rfl; have hfz9_0 := zF BK234.out 0; have hfz9_1 := zF BK234.out 1; have hfz9_2 := zF BK234.out 2; have hfz9_3 := zF BK234.out 3; have hfz9_4 := zF BK234.out 4; have hfz9_5 := zF BK234.out 5))
  go_loopg [14] k (fun kq v14 w' => ∃ (x14_1 : Int) (x234000_1 : Bool) (x234001_1 : Bool) (x234002_1 : Bool) (x234003_1 : Bool) (x234004_1 : Bool) (x234005_1 : Bool) (x235000_1 : Bool) (x235001_1 : Bool) (x235002_1 : Bool) (x235003_1 : Bool) (x235004_1 : Bool) (x235005_1 : Bool), v14 = .int .i64 x14_1 ∧ Aside0 (ropewayref04_Join.l0 kq l0 (l0.length : Int) x14_1 x234000_1 x234001_1 x234002_1 x234003_1 x234004_1 x234005_1 x235000_1 x235001_1 x235002_1 x235003_1 x235004_1 x235005_1 = some (r1, r2)) ∧ Aside0 (kq ≤ k) ∧ Aside0 (w'.heap[gb232]? = some (.cells #[.int .i64 0, .int .i64 0] 24 (0, 0))) ∧ Aside0 (w'.heap[gb233]? = some (.cells #[.bool x234000_1, .bool x234001_1, .bool x234002_1, .bool x234003_1, .bool x234004_1, .bool x234005_1] 55 (0, 0))) ∧ Aside0 (w'.heap[gb234]? = some (.cells #[.bool x235000_1, .bool x235001_1, .bool x235002_1, .bool x235003_1, .bool x235004_1, .bool x235005_1] 55 (0, 0))) ∧ Aside0 (Below w.heap.size w w'))
  case atStart => exact ⟨(0), (false), (false), (false), (false), (false), (false), (false), (false), (false), (false), (false), (false), (by first | rfl | (simp; done) | (simp [*]; done) | (simp; grind)), H', ⟨Nat.le_refl _⟩, ⟨blf_⟩, ⟨by (with_reducible repeat (first | refine zN ?_ _ | refine zD ?_ | refine zA ?_ _)); refine blk_far ?_ NB233_234.out _; (with_reducible repeat (first | refine zN ?_ _ | refine zD ?_ | refine zA ?_ _)); refine blk_far ?_ NB233_234.out _; (with_reducible repeat (first | refine zN ?_ _ | refine zD ?_ | refine zA ?_ _)); refine blk_far ?_ NB233_234.out _; (with_reducible repeat (first | refine zN ?_ _ | refine zD ?_ | refine zA ?_ _)); refine blk_far ?_ NB233_234.out _; (with_reducible repeat (first | refine zN ?_ _ | refine zD ?_ | refine zA ?_ _)); refine blk_far ?_ NB233_234.out _; (with_reducible repeat (first | refine zN ?_ _ | refine zD ?_ | refine zA ?_ _)); refine blk_far ?_ NB233_234.out _; (with_reducible repeat (first | refine zN ?_ _ | refine zD ?_ | refine zA ?_ _)); refine blk_put (cs := #[.bool false, .bool false, .bool false, .bool false, .bool false, .bool false]) ?_ 5 _ rfl; (with_reducible repeat (first | refine zN ?_ _ | refine zD ?_ | refine zA ?_ _)); refine blk_put (cs := #[.bool false, .bool false, .bool false, .bool false, .bool false, .bool false]) ?_ 4 _ rfl; (with_reducible repeat (first | refine zN ?_ _ | refine zD ?_ | refine zA ?_ _)); refine blk_put (cs := #[.bool false, .bool false, .bool false, .bool false, .bool false, .bool false]) ?_ 3 _ rfl; (with_reducible repeat (first | refine zN ?_ _ | refine zD ?_ | refine zA ?_ _)); refine blk_put (cs := #[.bool false, .bool false, .bool false, .bool false, .bool false, .bool false]) ?_ 2 _ rfl; (with_reducible repeat (first | refine zN ?_ _ | refine zD ?_ | refine zA ?_ _)); refine blk_put (cs := #[.bool false, .bool false, .bool false, .bool false, .bool false, .bool false]) ?_ 1 _ rfl; (with_reducible repeat (first | refine zN ?_ _ | refine zD ?_ | refine zA ?_ _)); refine blk_put (cs := #[.bool false, .bool false, .bool false, .bool false, .bool false, .bool false]) ?_ 0 _ rfl; (with_reducible repeat (first | refine zN ?_ _ | refine zD ?_ | refine zA ?_ _)); exact BK233.out⟩, ⟨by (with_reducible repeat (first | refine zN ?_ _ | refine zD ?_ | refine zA ?_ _)); refine blk_put (cs := #[.bool false, .bool false, .bool false, .bool false, .bool false, .bool false]) ?_ 5 _ rfl; (with_reducible repeat (first | refine zN ?_ _ | refine zD ?_ | refine zA ?_ _)); refine blk_put (cs := #[.bool false, .bool false, .bool false, .bool false, .bool false, .bool false]) ?_ 4 _ rfl; (with_reducible repeat (first | refine zN ?_ _ | refine zD ?_ | refine zA ?_ _)); refine blk_put (cs := #[.bool false, .bool false, .bool false, .bool false, .bool false, .bool false]) ?_ 3 _ rfl; (with_reducible repeat (first | refine zN ?_ _ | refine zD ?_ | refine zA ?_ _)); refine blk_put (cs := #[.bool false, .bool false, .bool false, .bool false, .bool false, .bool false]) ?_ 2 _ rfl; (with_reducible repeat (first | refine zN ?_ _ | refine zD ?_ | refine zA ?_ _)); refine blk_put (cs := #[.bool false, .bool false, .bool false, .bool false, .bool false, .bool false]) ?_ 1 _ rfl; (with_reducible repeat (first | refine zN ?_ _ | refine zD ?_ | refine zA ?_ _)); refine blk_put (cs := #[.bool false, .bool false, .bool false, .bool false, .bool false, .bool false]) ?_ 0 _ rfl; (with_reducible repeat (first | refine zN ?_ _ | refine zD ?_ | refine zA ?_ _)); refine blk_far ?_ NB234_233.out _; (with_reducible repeat (first | refine zN ?_ _ | refine zD ?_ | refine zA ?_ _)); refine blk_far ?_ NB234_233.out _; (with_reducible repeat (first | refine zN ?_ _ | refine zD ?_ | refine zA ?_ _)); refine blk_far ?_ NB234_233.out _; (with_reducible repeat (first | refine zN ?_ _ | refine zD ?_ | refine zA ?_ _)); refine blk_far ?_ NB234_233.out _; (with_reducible repeat (first | refine zN ?_ _ | refine zD ?_ | refine zA ?_ _)); refine blk_far ?_ NB234_233.out _; (with_reducible repeat (first | refine zN ?_ _ | refine zD ?_ | refine zA ?_ _)); refine blk_far ?_ NB234_233.out _; (with_reducible repeat (first | refine zN ?_ _ | refine zD ?_ | refine zA ?_ _)); exact BK234.out⟩, ⟨bel_⟩⟩
  case round =>
   clear H'
   try clear c2
   try clear p2
   try clear c5
   try clear c6
   try clear c8
   try clear hcz7_0
   try clear hcz7_1
   try clear hcz7_2
   try clear hcz7_3
   try clear hcz7_4
   try clear hcz7_5
   try clear hcz9_0
   try clear hcz9_1
   try clear hcz9_2
   try clear hcz9_3
   try clear hcz9_4
   try clear hcz9_5
   try clear hfz7_0
   try clear hfz7_1
   try clear hfz7_2
   try clear hfz7_3
   try clear hfz7_4
   try clear hfz7_5
   try clear hfz9_0
   try clear hfz9_1
   try clear hfz9_2
   try clear hfz9_3
   try clear hfz9_4
   try clear hfz9_5
   obtain ⟨x14_1, x234000_1, x234001_1, x234002_1, x234003_1, x234004_1, x234005_1, x235000_1, x235001_1, x235002_1, x235003_1, x235004_1, x235005_1, rfl, HA, HK1, BK232, BK233, BK234, HB⟩ := hrel
   cases gk with
   | zero => exact absurd HA.out (by simp [ropewayref04_Join.l0])
   | succ k1 =>
    have H := HA.out
    clear HA
    simp only [ropewayref04_Join.l0] at H
    by_cases c10 : x14_1 < (l0.length : Int)
    rotate_left
    · rw [if_neg c10] at H
      have c10b0 : decide (x14_1 < (l0.length : Int)) = false := decide_eq_false c10
      clear c10
      replace H := Option.bind_eq_some_iff.mp H
      obtain ⟨⟨t235, t236⟩, A670, H⟩ := H
      replace H : (some (t235, t236)) = some (r1, r2) := H
      have A67 := zM A670
      clear A670
      simp only [Option.some.injEq, Prod.mk.injEq] at H
      obtain ⟨rfl, rfl⟩ := H
      have hnb68 := NB233_232.out
      have hnc68 := NB232_233.out
      have hnb69 := NB233_234.out
      have hnc69 := NB234_233.out
      have hcz70_0 : wr.cell? ⟨gb233, 0, none⟩ = some (.bool x234000_1) := (zL BK233.out 0).trans rfl
      have hcz70_1 : wr.cell? ⟨gb233, 1, none⟩ = some (.bool x234001_1) := (zL BK233.out 1).trans rfl
      have hcz70_2 : wr.cell? ⟨gb233, 2, none⟩ = some (.bool x234002_1) := (zL BK233.out 2).trans rfl
      have hcz70_3 : wr.cell? ⟨gb233, 3, none⟩ = some (.bool x234003_1) := (zL BK233.out 3).trans rfl
      have hcz70_4 : wr.cell? ⟨gb233, 4, none⟩ = some (.bool x234004_1) := (zL BK233.out 4).trans rfl
      have hcz70_5 : wr.cell? ⟨gb233, 5, none⟩ = some (.bool x234005_1) := (zL BK233.out 5).trans rfl
      have hfz70_0 := zF BK233.out 0
      have hfz70_1 := zF BK233.out 1
      have hfz70_2 := zF BK233.out 2
      have hfz70_3 := zF BK233.out 3
      have hfz70_4 := zF BK233.out 4
      have hfz70_5 := zF BK233.out 5
      have hnb71 := NB234_232.out
      have hnc71 := NB232_234.out
      have hcz72_0 : wr.cell? ⟨gb234, 0, none⟩ = some (.bool x235000_1) := (zL BK234.out 0).trans rfl
      have hcz72_1 : wr.cell? ⟨gb234, 1, none⟩ = some (.bool x235001_1) := (zL BK234.out 1).trans rfl
      have hcz72_2 : wr.cell? ⟨gb234, 2, none⟩ = some (.bool x235002_1) := (zL BK234.out 2).trans rfl
      have hcz72_3 : wr.cell? ⟨gb234, 3, none⟩ = some (.bool x235003_1) := (zL BK234.out 3).trans rfl
      have hcz72_4 : wr.cell? ⟨gb234, 4, none⟩ = some (.bool x235004_1) := (zL BK234.out 4).trans rfl
      have hcz72_5 : wr.cell? ⟨gb234, 5, none⟩ = some (.bool x235005_1) := (zL BK234.out 5).trans rfl
      have hfz72_0 := zF BK234.out 0
      have hfz72_1 := zF BK234.out 1
      have hfz72_2 := zF BK234.out 2
      have hfz72_3 := zF BK234.out 3
      have hfz72_4 := zF BK234.out 4
      have hfz72_5 := zF BK234.out 5
      go_wp2_with (first | ((with_reducible refine gate_callee (f := 31) rfl ?_); refine goL_ (some 47) Try.func31 #[.agg #[.bool x234000_1, .bool x234001_1, .bool x234002_1, .bool x234003_1, .bool x234004_1, .bool x234005_1], .agg #[.bool x235000_1, .bool x235001_1, .bool x235002_1, .bool x235003_1, .bool x235004_1, .bool x235005_1]] ?_; (with_reducible refine (ropewayref04_set.calls k1 x234000_1 x234001_1 x234002_1 x234003_1 x234004_1 x234005_1 x235000_1 x235001_1 x235002_1 x235003_1 x235004_1 x235005_1 t235 t236 _ A67.out).mono ?_); rintro e w73 ⟨rfl, hb⟩; refine ⟨_, rfl, ?_⟩; replace BK232 := zM (bb_ BK232 hb); replace BK233 := zM (bb_ BK233 hb); replace BK234 := zM (bb_ BK234 hb); replace HB := zM (zB bel_ hb); (try clear hb); (try clear hb2); (try clear hk); (try clear hi); have hcz74_0 : w73.cell? ⟨gb232, 0, none⟩ = some (.int .i64 0) := (zL BK232.out 0).trans rfl; have hcz74_1 : w73.cell? ⟨gb232, 1, none⟩ = some (.int .i64 0) := (zL BK232.out 1).trans rfl; have hfz74_0 := zF BK232.out 0; have hfz74_1 := zF BK232.out 1))
      refine bodyPost_ret (results_cell_row rfl _ _ gb232 24 #[.int .i64 t235, .int .i64 t236] (0, 0) _ rfl (by (with_reducible repeat (first | refine zN ?_ _ | refine zD ?_ | refine zA ?_ _)); refine blk_put (cs := #[.int .i64 t235, .int .i64 0]) ?_ 1 _ rfl; (with_reducible repeat (first | refine zN ?_ _ | refine zD ?_ | refine zA ?_ _)); refine blk_put (cs := #[.int .i64 0, .int .i64 0]) ?_ 0 _ rfl; (with_reducible repeat (first | refine zN ?_ _ | refine zD ?_ | refine zA ?_ _)); exact BK232.out) Try.underlying24 rfl (by kernel_rfl)) rfl ?_
      exact ⟨by first | rfl | (simp [errW_none, errW_some] <;> rfl) | (simp [*, errW_none, errW_some] <;> rfl), bel_⟩
    rw [if_pos c10] at H
    have c10b0 : decide (x14_1 < (l0.length : Int)) = true := decide_eq_true c10
    clear c10
    by_cases c11 : 0 ≤ x14_1
    rotate_left
    · rw [if_neg c11] at H
      exact absurd H (by simp)
    rw [if_pos c11] at H
    have c11b0 : decide (0 ≤ x14_1) = true := decide_eq_true c11
    clear c11
    by_cases c12 : x14_1 < (l0.length : Int)
    rotate_left
    · rw [if_neg c12] at H
      exact absurd H (by simp)
    rw [if_pos c12] at H
    have c12b0 : decide (x14_1 < (l0.length : Int)) = true := decide_eq_true c12
    clear c12
    have H' := zM H
    clear H
    have p237 : 0 ≤ (x14_1 : Int) := of_decide_eq_true (by first | (with_reducible assumption) | assumption)
    have q237 : x14_1 < (l0.length : Int) := of_decide_eq_true (by first | (with_reducible assumption) | assumption)
    obtain ⟨ad237, e237, hx237_0, hx237_1⟩ := at_T24 HR0.out x14_1 p237 q237
    cases e237
    replace hx237_0 := (HB.out.cell (World.block_lt_of_cell? w _ hx237_0)).trans hx237_0
    replace hx237_1 := (HB.out.cell (World.block_lt_of_cell? w _ hx237_1)).trans hx237_1
    replace p237 := eq_true p237
    replace q237 := eq_true q237
    go_wp2_with (first | ((with_reducible refine gate_dst (N := 6) rfl ?_); refine box_event ?hg (N := 6) ?hd (cs := #[.int .i64 0, .int .i64 0]) (t := 24) ?hr ?_; (case hd => rfl); (case hg => rfl); (case hr => first | (go_simp; done) | (go_simp; rfl)); intro gb238 hg w13 hbox hb; have BK238 := zM (hbox); have GW238 := zM (bs_ hg); have GE238 := zM (bs_ hg); replace HB := zM (zB bel_ hb); have NB232_238 := zM (nl_ BK232 hg); have NB238_232 := zM (ng_ BK232 hg); replace BK232 := zM (bb_ BK232 hb); have NB233_238 := zM (nl_ BK233 hg); have NB238_233 := zM (ng_ BK233 hg); replace BK233 := zM (bb_ BK233 hb); have NB234_238 := zM (nl_ BK234 hg); have NB238_234 := zM (ng_ BK234 hg); replace BK234 := zM (bb_ BK234 hb); clear hb hbox hg; have hnb14 := NB238_232.out; have hnc14 := NB232_238.out; have hnb15 := NB238_233.out; have hnc15 := NB233_238.out; have hnb16 := NB238_234.out; have hnc16 := NB234_238.out; have hcz17_0 : w13.cell? ⟨gb238, 0, none⟩ = some (.int .i64 0) := (zL BK238.out 0).trans rfl; have hcz17_1 : w13.cell? ⟨gb238, 1, none⟩ = some (.int .i64 0) := (zL BK238.out 1).trans rfl; have hfz17_0 := zF BK238.out 0; have hfz17_1 := zF BK238.out 1))
    go_loopg [7] k1 (fun kq v7 w' => ∃ (x7_2 : Int) (x234000_2 : Bool) (x234001_2 : Bool) (x234002_2 : Bool) (x234003_2 : Bool) (x234004_2 : Bool) (x234005_2 : Bool) (x235000_2 : Bool) (x235001_2 : Bool) (x235002_2 : Bool) (x235003_2 : Bool) (x235004_2 : Bool) (x235005_2 : Bool), v7 = .int .i64 x7_2 ∧ Aside0 (ropewayref04_Join.l1 kq x7_2 l0 (l0.length : Int) x14_1 x234000_2 x234001_2 x234002_2 x234003_2 x234004_2 x234005_2 x235000_2 x235001_2 x235002_2 x235003_2 x235004_2 x235005_2 ((rd_T24 l0 x14_1).f0) ((rd_T24 l0 x14_1).f1) = some (r1, r2)) ∧ Aside0 (kq ≤ k1) ∧ Aside0 (w'.heap[gb232]? = some (.cells #[.int .i64 0, .int .i64 0] 24 (0, 0))) ∧ Aside0 (w'.heap[gb233]? = some (.cells #[.bool x234000_2, .bool x234001_2, .bool x234002_2, .bool x234003_2, .bool x234004_2, .bool x234005_2] 55 (0, 0))) ∧ Aside0 (w'.heap[gb234]? = some (.cells #[.bool x235000_2, .bool x235001_2, .bool x235002_2, .bool x235003_2, .bool x235004_2, .bool x235005_2] 55 (0, 0))) ∧ Aside0 (w'.heap[gb238]? = some (.cells #[.int .i64 ((rd_T24 l0 x14_1).f0), .int .i64 ((rd_T24 l0 x14_1).f1)] 24 (0, 0))) ∧ Aside0 (Below w.heap.size w w'))
    case atStart => exact ⟨(0), (x234000_1), (x234001_1), (x234002_1), (x234003_1), (x234004_1), (x234005_1), (x235000_1), (x235001_1), (x235002_1), (x235003_1), (x235004_1), (x235005_1), (by first | rfl | (simp; done) | (simp [*]; done) | (simp; grind)), H', ⟨Nat.le_refl _⟩, ⟨blf_⟩, ⟨blf_⟩, ⟨blf_⟩, ⟨by (with_reducible repeat (first | refine zN ?_ _ | refine zD ?_ | refine zA ?_ _)); refine blk_put (cs := #[.int .i64 ((rd_T24 l0 x14_1).f0), .int .i64 0]) ?_ 1 _ rfl; (with_reducible repeat (first | refine zN ?_ _ | refine zD ?_ | refine zA ?_ _)); refine blk_put (cs := #[.int .i64 0, .int .i64 0]) ?_ 0 _ rfl; (with_reducible repeat (first | refine zN ?_ _ | refine zD ?_ | refine zA ?_ _)); exact BK238.out⟩, ⟨bel_⟩⟩
    case round =>
     clear H'
     try clear c1
     try clear c2
     try clear p2
     try clear q2
     try clear hx2
     try clear c5
     try clear c6
     try clear c8
     try clear c10
     try clear c10b0
     try clear c11
     try clear c11b0
     try clear c12
     try clear c12b0
     try clear c14
     try clear c15
     try clear c16
     try clear hcz17_0
     try clear hcz17_1
     try clear hcz7_0
     try clear hcz7_1
     try clear hcz7_2
     try clear hcz7_3
     try clear hcz7_4
     try clear hcz7_5
     try clear hcz9_0
     try clear hcz9_1
     try clear hcz9_2
     try clear hcz9_3
     try clear hcz9_4
     try clear hcz9_5
     try clear hfz17_0
     try clear hfz17_1
     try clear hfz7_0
     try clear hfz7_1
     try clear hfz7_2
     try clear hfz7_3
     try clear hfz7_4
     try clear hfz7_5
     try clear hfz9_0
     try clear hfz9_1
     try clear hfz9_2
     try clear hfz9_3
     try clear hfz9_4
     try clear hfz9_5
     try clear hx237_0
     try clear hx237_1
     try clear p2
     try clear p237
     try clear q237
     obtain ⟨x7_2, x234000_2, x234001_2, x234002_2, x234003_2, x234004_2, x234005_2, x235000_2, x235001_2, x235002_2, x235003_2, x235004_2, x235005_2, rfl, HA, HK2, BK232, BK233, BK234, BK238, HB⟩ := hrel
     cases gk with
     | zero => exact absurd HA.out (by simp [ropewayref04_Join.l1])
     | succ k2 =>
      have H := HA.out
      clear HA
      simp only [ropewayref04_Join.l1] at H
      by_cases c18 : x7_2 < 6
      rotate_left
      · rw [if_neg c18] at H
        have c18b0 : decide (x7_2 < 6) = false := decide_eq_false c18
        clear c18
        have H' := zM H
        clear H
        go_wp2
        go_roundg k2
        case measure => have := HK1.out; have := HK2.out; omega
        case rel => exact ⟨(wrap64 (x14_1 + 1)), (x234000_2), (x234001_2), (x234002_2), (x234003_2), (x234004_2), (x234005_2), (x235000_2), (x235001_2), (x235002_2), (x235003_2), (x235004_2), (x235005_2), (by first | rfl | (simp; done) | (simp [*]; done) | (simp; grind)), H', ⟨by have := HK1.out; have := HK2.out; omega⟩, ⟨blf_⟩, ⟨blf_⟩, ⟨blf_⟩, ⟨bel_⟩⟩
      rw [if_pos c18] at H
      have c18b0 : decide (x7_2 < 6) = true := decide_eq_true c18
      clear c18
      replace H := Option.bind_eq_some_iff.mp H
      obtain ⟨⟨t239, t240⟩, A190, H⟩ := H
      replace H : (if 0 ≤ x7_2 then (if rdOf false [x234000_2, x234001_2, x234002_2, x234003_2, x234004_2, x234005_2] x7_2 = true then (if rdOf false [x235000_2, x235001_2, x235002_2, x235003_2, x235004_2, x235005_2] x7_2 = true then (ropewayref04_Join.l1 k2 (wrap64 (x7_2 + 1)) l0 (l0.length : Int) x14_1 (stA x7_2 0 true x234000_2) (stA x7_2 1 true x234001_2) (stA x7_2 2 true x234002_2) (stA x7_2 3 true x234003_2) (stA x7_2 4 true x234004_2) (stA x7_2 5 true x234005_2) (stA x7_2 0 true x235000_2) (stA x7_2 1 true x235001_2) (stA x7_2 2 true x235002_2) (stA x7_2 3 true x235003_2) (stA x7_2 4 true x235004_2) (stA x7_2 5 true x235005_2) ((rd_T24 l0 x14_1).f0) ((rd_T24 l0 x14_1).f1)) else (ropewayref04_Join.l1 k2 (wrap64 (x7_2 + 1)) l0 (l0.length : Int) x14_1 (stA x7_2 0 true x234000_2) (stA x7_2 1 true x234001_2) (stA x7_2 2 true x234002_2) (stA x7_2 3 true x234003_2) (stA x7_2 4 true x234004_2) (stA x7_2 5 true x234005_2) (stA x7_2 0 t240 x235000_2) (stA x7_2 1 t240 x235001_2) (stA x7_2 2 t240 x235002_2) (stA x7_2 3 t240 x235003_2) (stA x7_2 4 t240 x235004_2) (stA x7_2 5 t240 x235005_2) ((rd_T24 l0 x14_1).f0) ((rd_T24 l0 x14_1).f1))) else (if rdOf false [x235000_2, x235001_2, x235002_2, x235003_2, x235004_2, x235005_2] x7_2 = true then (ropewayref04_Join.l1 k2 (wrap64 (x7_2 + 1)) l0 (l0.length : Int) x14_1 (stA x7_2 0 t239 x234000_2) (stA x7_2 1 t239 x234001_2) (stA x7_2 2 t239 x234002_2) (stA x7_2 3 t239 x234003_2) (stA x7_2 4 t239 x234004_2) (stA x7_2 5 t239 x234005_2) (stA x7_2 0 true x235000_2) (stA x7_2 1 true x235001_2) (stA x7_2 2 true x235002_2) (stA x7_2 3 true x235003_2) (stA x7_2 4 true x235004_2) (stA x7_2 5 true x235005_2) ((rd_T24 l0 x14_1).f0) ((rd_T24 l0 x14_1).f1)) else (ropewayref04_Join.l1 k2 (wrap64 (x7_2 + 1)) l0 (l0.length : Int) x14_1 (stA x7_2 0 t239 x234000_2) (stA x7_2 1 t239 x234001_2) (stA x7_2 2 t239 x234002_2) (stA x7_2 3 t239 x234003_2) (stA x7_2 4 t239 x234004_2) (stA x7_2 5 t239 x234005_2) (stA x7_2 0 t240 x235000_2) (stA x7_2 1 t240 x235001_2) (stA x7_2 2 t240 x235002_2) (stA x7_2 3 t240 x235003_2) (stA x7_2 4 t240 x235004_2) (stA x7_2 5 t240 x235005_2) ((rd_T24 l0 x14_1).f0) ((rd_T24 l0 x14_1).f1)))) else (none)) = some (r1, r2) := H
      have A19 := zM A190
      clear A190
      by_cases c20 : 0 ≤ x7_2
      rotate_left
      · rw [if_neg c20] at H
        exact absurd H (by simp)
      rw [if_pos c20] at H
      have c20b0 : decide (0 ≤ x7_2) = true := decide_eq_true c20
      clear c20
      obtain ⟨bq21, hbq21⟩ : ∃ b_ : Bool, b_ = (rdOf false [x234000_2, x234001_2, x234002_2, x234003_2, x234004_2, x234005_2] x7_2) := ⟨_, rfl⟩
      replace H : (if bq21 = true then (if rdOf false [x235000_2, x235001_2, x235002_2, x235003_2, x235004_2, x235005_2] x7_2 = true then (ropewayref04_Join.l1 k2 (wrap64 (x7_2 + 1)) l0 (l0.length : Int) x14_1 (stA x7_2 0 true x234000_2) (stA x7_2 1 true x234001_2) (stA x7_2 2 true x234002_2) (stA x7_2 3 true x234003_2) (stA x7_2 4 true x234004_2) (stA x7_2 5 true x234005_2) (stA x7_2 0 true x235000_2) (stA x7_2 1 true x235001_2) (stA x7_2 2 true x235002_2) (stA x7_2 3 true x235003_2) (stA x7_2 4 true x235004_2) (stA x7_2 5 true x235005_2) ((rd_T24 l0 x14_1).f0) ((rd_T24 l0 x14_1).f1)) else (ropewayref04_Join.l1 k2 (wrap64 (x7_2 + 1)) l0 (l0.length : Int) x14_1 (stA x7_2 0 true x234000_2) (stA x7_2 1 true x234001_2) (stA x7_2 2 true x234002_2) (stA x7_2 3 true x234003_2) (stA x7_2 4 true x234004_2) (stA x7_2 5 true x234005_2) (stA x7_2 0 t240 x235000_2) (stA x7_2 1 t240 x235001_2) (stA x7_2 2 t240 x235002_2) (stA x7_2 3 t240 x235003_2) (stA x7_2 4 t240 x235004_2) (stA x7_2 5 t240 x235005_2) ((rd_T24 l0 x14_1).f0) ((rd_T24 l0 x14_1).f1))) else (if rdOf false [x235000_2, x235001_2, x235002_2, x235003_2, x235004_2, x235005_2] x7_2 = true then (ropewayref04_Join.l1 k2 (wrap64 (x7_2 + 1)) l0 (l0.length : Int) x14_1 (stA x7_2 0 t239 x234000_2) (stA x7_2 1 t239 x234001_2) (stA x7_2 2 t239 x234002_2) (stA x7_2 3 t239 x234003_2) (stA x7_2 4 t239 x234004_2) (stA x7_2 5 t239 x234005_2) (stA x7_2 0 true x235000_2) (stA x7_2 1 true x235001_2) (stA x7_2 2 true x235002_2) (stA x7_2 3 true x235003_2) (stA x7_2 4 true x235004_2) (stA x7_2 5 true x235005_2) ((rd_T24 l0 x14_1).f0) ((rd_T24 l0 x14_1).f1)) else (ropewayref04_Join.l1 k2 (wrap64 (x7_2 + 1)) l0 (l0.length : Int) x14_1 (stA x7_2 0 t239 x234000_2) (stA x7_2 1 t239 x234001_2) (stA x7_2 2 t239 x234002_2) (stA x7_2 3 t239 x234003_2) (stA x7_2 4 t239 x234004_2) (stA x7_2 5 t239 x234005_2) (stA x7_2 0 t240 x235000_2) (stA x7_2 1 t240 x235001_2) (stA x7_2 2 t240 x235002_2) (stA x7_2 3 t240 x235003_2) (stA x7_2 4 t240 x235004_2) (stA x7_2 5 t240 x235005_2) ((rd_T24 l0 x14_1).f0) ((rd_T24 l0 x14_1).f1)))) = some (r1, r2) := by rw [← hbq21] at H; exact H
      have Nbq21 := zM hbq21
      clear hbq21
      by_cases c22 : bq21 = true
      · subst c22
        have H1 : (if rdOf false [x235000_2, x235001_2, x235002_2, x235003_2, x235004_2, x235005_2] x7_2 = true then (ropewayref04_Join.l1 k2 (wrap64 (x7_2 + 1)) l0 (l0.length : Int) x14_1 (stA x7_2 0 true x234000_2) (stA x7_2 1 true x234001_2) (stA x7_2 2 true x234002_2) (stA x7_2 3 true x234003_2) (stA x7_2 4 true x234004_2) (stA x7_2 5 true x234005_2) (stA x7_2 0 true x235000_2) (stA x7_2 1 true x235001_2) (stA x7_2 2 true x235002_2) (stA x7_2 3 true x235003_2) (stA x7_2 4 true x235004_2) (stA x7_2 5 true x235005_2) ((rd_T24 l0 x14_1).f0) ((rd_T24 l0 x14_1).f1)) else (ropewayref04_Join.l1 k2 (wrap64 (x7_2 + 1)) l0 (l0.length : Int) x14_1 (stA x7_2 0 true x234000_2) (stA x7_2 1 true x234001_2) (stA x7_2 2 true x234002_2) (stA x7_2 3 true x234003_2) (stA x7_2 4 true x234004_2) (stA x7_2 5 true x234005_2) (stA x7_2 0 t240 x235000_2) (stA x7_2 1 t240 x235001_2) (stA x7_2 2 t240 x235002_2) (stA x7_2 3 t240 x235003_2) (stA x7_2 4 t240 x235004_2) (stA x7_2 5 t240 x235005_2) ((rd_T24 l0 x14_1).f0) ((rd_T24 l0 x14_1).f1))) = some (r1, r2) := by rw [if_pos rfl] at H; exact H
        clear H
        have H := H1
        clear H1
        obtain ⟨bq23, hbq23⟩ : ∃ b_ : Bool, b_ = (rdOf false [x235000_2, x235001_2, x235002_2, x235003_2, x235004_2, x235005_2] x7_2) := ⟨_, rfl⟩
        replace H : (if bq23 = true then (ropewayref04_Join.l1 k2 (wrap64 (x7_2 + 1)) l0 (l0.length : Int) x14_1 (stA x7_2 0 true x234000_2) (stA x7_2 1 true x234001_2) (stA x7_2 2 true x234002_2) (stA x7_2 3 true x234003_2) (stA x7_2 4 true x234004_2) (stA x7_2 5 true x234005_2) (stA x7_2 0 true x235000_2) (stA x7_2 1 true x235001_2) (stA x7_2 2 true x235002_2) (stA x7_2 3 true x235003_2) (stA x7_2 4 true x235004_2) (stA x7_2 5 true x235005_2) ((rd_T24 l0 x14_1).f0) ((rd_T24 l0 x14_1).f1)) else (ropewayref04_Join.l1 k2 (wrap64 (x7_2 + 1)) l0 (l0.length : Int) x14_1 (stA x7_2 0 true x234000_2) (stA x7_2 1 true x234001_2) (stA x7_2 2 true x234002_2) (stA x7_2 3 true x234003_2) (stA x7_2 4 true x234004_2) (stA x7_2 5 true x234005_2) (stA x7_2 0 t240 x235000_2) (stA x7_2 1 t240 x235001_2) (stA x7_2 2 t240 x235002_2) (stA x7_2 3 t240 x235003_2) (stA x7_2 4 t240 x235004_2) (stA x7_2 5 t240 x235005_2) ((rd_T24 l0 x14_1).f0) ((rd_T24 l0 x14_1).f1))) = some (r1, r2) := by rw [← hbq23] at H; exact H
        have Nbq23 := zM hbq23
        clear hbq23
        by_cases c24 : bq23 = true
        · subst c24
          have H1 : (ropewayref04_Join.l1 k2 (wrap64 (x7_2 + 1)) l0 (l0.length : Int) x14_1 (stA x7_2 0 true x234000_2) (stA x7_2 1 true x234001_2) (stA x7_2 2 true x234002_2) (stA x7_2 3 true x234003_2) (stA x7_2 4 true x234004_2) (stA x7_2 5 true x234005_2) (stA x7_2 0 true x235000_2) (stA x7_2 1 true x235001_2) (stA x7_2 2 true x235002_2) (stA x7_2 3 true x235003_2) (stA x7_2 4 true x235004_2) (stA x7_2 5 true x235005_2) ((rd_T24 l0 x14_1).f0) ((rd_T24 l0 x14_1).f1)) = some (r1, r2) := by rw [if_pos rfl] at H; exact H
          clear H
          have H := H1
          clear H1
          have H' := zM H
          clear H
          have hnb25 := NB238_232.out
          have hnc25 := NB232_238.out
          have hnb26 := NB238_233.out
          have hnc26 := NB233_238.out
          have hnb27 := NB238_234.out
          have hnc27 := NB234_238.out
          have hcz28_0 : wr.cell? ⟨gb238, 0, none⟩ = some (.int .i64 ((rd_T24 l0 x14_1).f0)) := (zL BK238.out 0).trans rfl
          have hcz28_1 : wr.cell? ⟨gb238, 1, none⟩ = some (.int .i64 ((rd_T24 l0 x14_1).f1)) := (zL BK238.out 1).trans rfl
          have hfz28_0 := zF BK238.out 0
          have hfz28_1 := zF BK238.out 1
          go_wp2_with (first | ((with_reducible refine gate_callee (f := 30) rfl ?_); refine goL_ (some 25) Try.func30 #[.agg #[.int .i64 ((rd_T24 l0 x14_1).f0), .int .i64 ((rd_T24 l0 x14_1).f1)], .int .i64 x7_2] ?_; (with_reducible refine (ropewayref04_Has.calls k2 ((rd_T24 l0 x14_1).f0) ((rd_T24 l0 x14_1).f1) x7_2 t239 t240 _ A19.out).mono ?_); rintro e w29 ⟨rfl, hb⟩; refine ⟨_, rfl, ?_⟩; replace BK232 := zM (bb_ BK232 hb); replace BK233 := zM (bb_ BK233 hb); replace BK234 := zM (bb_ BK234 hb); replace BK238 := zM (bb_ BK238 hb); replace HB := zM (zB bel_ hb); (try clear hb); (try clear hb2); (try clear hk); (try clear hi); have hnb30 := NB233_232.out; have hnc30 := NB232_233.out; have hnb31 := NB233_234.out; have hnc31 := NB234_233.out; have pdz32 : 0 ≤ (x7_2 : Int) := (of_decide_eq_true (by first | (with_reducible assumption) | assumption)); have qdz32 : (x7_2 : Int) < 6 := (of_decide_eq_true (by first | (with_reducible assumption) | assumption)); have hcdz32 : w29.cell? ⟨gb233, (x7_2 : Int).toNat, none⟩ = some (.bool (rdOf false [x234000_2, x234001_2, x234002_2, x234003_2, x234004_2, x234005_2] x7_2)) := arrC6 BK233.out x7_2 pdz32 qdz32; have hfdz32 := zF BK233.out (x7_2 : Int).toNat; (try rw [← Nbq21.out] at hcdz32); (try rw [← Nbq23.out] at hcdz32); replace pdz32 := eq_true pdz32; replace qdz32 := eq_true qdz32; have hnb33 := NB234_232.out; have hnc33 := NB232_234.out; have pdz34 : 0 ≤ (x7_2 : Int) := (of_decide_eq_true (by first | (with_reducible assumption) | assumption)); have qdz34 : (x7_2 : Int) < 6 := (of_decide_eq_true (by first | (with_reducible assumption) | assumption)); have hcdz34 : w29.cell? ⟨gb234, (x7_2 : Int).toNat, none⟩ = some (.bool (rdOf false [x235000_2, x235001_2, x235002_2, x235003_2, x235004_2, x235005_2] x7_2)) := arrC6 BK234.out x7_2 pdz34 qdz34; have hfdz34 := zF BK234.out (x7_2 : Int).toNat; (try rw [← Nbq21.out] at hcdz34); (try rw [← Nbq23.out] at hcdz34); replace pdz34 := eq_true pdz34; replace qdz34 := eq_true qdz34))
          go_roundg k2
          case measure => have := HK1.out; have := HK2.out; omega
          case rel => exact ⟨(wrap64 (x7_2 + 1)), (stA x7_2 0 true x234000_2), (stA x7_2 1 true x234001_2), (stA x7_2 2 true x234002_2), (stA x7_2 3 true x234003_2), (stA x7_2 4 true x234004_2), (stA x7_2 5 true x234005_2), (stA x7_2 0 true x235000_2), (stA x7_2 1 true x235001_2), (stA x7_2 2 true x235002_2), (stA x7_2 3 true x235003_2), (stA x7_2 4 true x235004_2), (stA x7_2 5 true x235005_2), (by first | rfl | (simp; done) | (simp [*]; done) | (simp; grind)), H', ⟨by have := HK1.out; have := HK2.out; omega⟩, ⟨blf_⟩, ⟨by (with_reducible repeat (first | refine zN ?_ _ | refine zD ?_ | refine zA ?_ _)); refine blk_far ?_ NB233_234.out _; (with_reducible repeat (first | refine zN ?_ _ | refine zD ?_ | refine zA ?_ _)); refine arrP6 ?_ x7_2 true (of_decide_eq_true (by first | (with_reducible assumption) | assumption)) (of_decide_eq_true (by first | (with_reducible assumption) | assumption)); (with_reducible repeat (first | refine zN ?_ _ | refine zD ?_ | refine zA ?_ _)); exact BK233.out⟩, ⟨by (with_reducible repeat (first | refine zN ?_ _ | refine zD ?_ | refine zA ?_ _)); refine arrP6 ?_ x7_2 true (of_decide_eq_true (by first | (with_reducible assumption) | assumption)) (of_decide_eq_true (by first | (with_reducible assumption) | assumption)); (with_reducible repeat (first | refine zN ?_ _ | refine zD ?_ | refine zA ?_ _)); refine blk_far ?_ NB234_233.out _; (with_reducible repeat (first | refine zN ?_ _ | refine zD ?_ | refine zA ?_ _)); exact BK234.out⟩, ⟨blf_⟩, ⟨bel_⟩⟩
        replace c24 := Bool.eq_false_iff.mpr c24
        subst c24
        have H1 : (ropewayref04_Join.l1 k2 (wrap64 (x7_2 + 1)) l0 (l0.length : Int) x14_1 (stA x7_2 0 true x234000_2) (stA x7_2 1 true x234001_2) (stA x7_2 2 true x234002_2) (stA x7_2 3 true x234003_2) (stA x7_2 4 true x234004_2) (stA x7_2 5 true x234005_2) (stA x7_2 0 t240 x235000_2) (stA x7_2 1 t240 x235001_2) (stA x7_2 2 t240 x235002_2) (stA x7_2 3 t240 x235003_2) (stA x7_2 4 t240 x235004_2) (stA x7_2 5 t240 x235005_2) ((rd_T24 l0 x14_1).f0) ((rd_T24 l0 x14_1).f1)) = some (r1, r2) := by rw [if_neg (show ¬ (false = true) by decide)] at H; exact H
        clear H
        have H := H1
        clear H1
        have H' := zM H
        clear H
        have hnb35 := NB238_232.out
        have hnc35 := NB232_238.out
        have hnb36 := NB238_233.out
        have hnc36 := NB233_238.out
        have hnb37 := NB238_234.out
        have hnc37 := NB234_238.out
        have hcz38_0 : wr.cell? ⟨gb238, 0, none⟩ = some (.int .i64 ((rd_T24 l0 x14_1).f0)) := (zL BK238.out 0).trans rfl
        have hcz38_1 : wr.cell? ⟨gb238, 1, none⟩ = some (.int .i64 ((rd_T24 l0 x14_1).f1)) := (zL BK238.out 1).trans rfl
        have hfz38_0 := zF BK238.out 0
        have hfz38_1 := zF BK238.out 1
        go_wp2_with (first | ((with_reducible refine gate_callee (f := 30) rfl ?_); refine goL_ (some 25) Try.func30 #[.agg #[.int .i64 ((rd_T24 l0 x14_1).f0), .int .i64 ((rd_T24 l0 x14_1).f1)], .int .i64 x7_2] ?_; (with_reducible refine (ropewayref04_Has.calls k2 ((rd_T24 l0 x14_1).f0) ((rd_T24 l0 x14_1).f1) x7_2 t239 t240 _ A19.out).mono ?_); rintro e w39 ⟨rfl, hb⟩; refine ⟨_, rfl, ?_⟩; replace BK232 := zM (bb_ BK232 hb); replace BK233 := zM (bb_ BK233 hb); replace BK234 := zM (bb_ BK234 hb); replace BK238 := zM (bb_ BK238 hb); replace HB := zM (zB bel_ hb); (try clear hb); (try clear hb2); (try clear hk); (try clear hi); have hnb40 := NB233_232.out; have hnc40 := NB232_233.out; have hnb41 := NB233_234.out; have hnc41 := NB234_233.out; have pdz42 : 0 ≤ (x7_2 : Int) := (of_decide_eq_true (by first | (with_reducible assumption) | assumption)); have qdz42 : (x7_2 : Int) < 6 := (of_decide_eq_true (by first | (with_reducible assumption) | assumption)); have hcdz42 : w39.cell? ⟨gb233, (x7_2 : Int).toNat, none⟩ = some (.bool (rdOf false [x234000_2, x234001_2, x234002_2, x234003_2, x234004_2, x234005_2] x7_2)) := arrC6 BK233.out x7_2 pdz42 qdz42; have hfdz42 := zF BK233.out (x7_2 : Int).toNat; (try rw [← Nbq21.out] at hcdz42); (try rw [← Nbq23.out] at hcdz42); replace pdz42 := eq_true pdz42; replace qdz42 := eq_true qdz42; have hnb43 := NB234_232.out; have hnc43 := NB232_234.out; have pdz44 : 0 ≤ (x7_2 : Int) := (of_decide_eq_true (by first | (with_reducible assumption) | assumption)); have qdz44 : (x7_2 : Int) < 6 := (of_decide_eq_true (by first | (with_reducible assumption) | assumption)); have hcdz44 : w39.cell? ⟨gb234, (x7_2 : Int).toNat, none⟩ = some (.bool (rdOf false [x235000_2, x235001_2, x235002_2, x235003_2, x235004_2, x235005_2] x7_2)) := arrC6 BK234.out x7_2 pdz44 qdz44; have hfdz44 := zF BK234.out (x7_2 : Int).toNat; (try rw [← Nbq21.out] at hcdz44); (try rw [← Nbq23.out] at hcdz44); replace pdz44 := eq_true pdz44; replace qdz44 := eq_true qdz44))
        go_roundg k2
        case measure => have := HK1.out; have := HK2.out; omega
        case rel => exact ⟨(wrap64 (x7_2 + 1)), (stA x7_2 0 true x234000_2), (stA x7_2 1 true x234001_2), (stA x7_2 2 true x234002_2), (stA x7_2 3 true x234003_2), (stA x7_2 4 true x234004_2), (stA x7_2 5 true x234005_2), (stA x7_2 0 t240 x235000_2), (stA x7_2 1 t240 x235001_2), (stA x7_2 2 t240 x235002_2), (stA x7_2 3 t240 x235003_2), (stA x7_2 4 t240 x235004_2), (stA x7_2 5 t240 x235005_2), (by first | rfl | (simp; done) | (simp [*]; done) | (simp; grind)), H', ⟨by have := HK1.out; have := HK2.out; omega⟩, ⟨blf_⟩, ⟨by (with_reducible repeat (first | refine zN ?_ _ | refine zD ?_ | refine zA ?_ _)); refine blk_far ?_ NB233_234.out _; (with_reducible repeat (first | refine zN ?_ _ | refine zD ?_ | refine zA ?_ _)); refine arrP6 ?_ x7_2 true (of_decide_eq_true (by first | (with_reducible assumption) | assumption)) (of_decide_eq_true (by first | (with_reducible assumption) | assumption)); (with_reducible repeat (first | refine zN ?_ _ | refine zD ?_ | refine zA ?_ _)); exact BK233.out⟩, ⟨by (with_reducible repeat (first | refine zN ?_ _ | refine zD ?_ | refine zA ?_ _)); refine arrP6 ?_ x7_2 t240 (of_decide_eq_true (by first | (with_reducible assumption) | assumption)) (of_decide_eq_true (by first | (with_reducible assumption) | assumption)); (with_reducible repeat (first | refine zN ?_ _ | refine zD ?_ | refine zA ?_ _)); refine blk_far ?_ NB234_233.out _; (with_reducible repeat (first | refine zN ?_ _ | refine zD ?_ | refine zA ?_ _)); exact BK234.out⟩, ⟨blf_⟩, ⟨bel_⟩⟩
      replace c22 := Bool.eq_false_iff.mpr c22
      subst c22
      have H1 : (if rdOf false [x235000_2, x235001_2, x235002_2, x235003_2, x235004_2, x235005_2] x7_2 = true then (ropewayref04_Join.l1 k2 (wrap64 (x7_2 + 1)) l0 (l0.length : Int) x14_1 (stA x7_2 0 t239 x234000_2) (stA x7_2 1 t239 x234001_2) (stA x7_2 2 t239 x234002_2) (stA x7_2 3 t239 x234003_2) (stA x7_2 4 t239 x234004_2) (stA x7_2 5 t239 x234005_2) (stA x7_2 0 true x235000_2) (stA x7_2 1 true x235001_2) (stA x7_2 2 true x235002_2) (stA x7_2 3 true x235003_2) (stA x7_2 4 true x235004_2) (stA x7_2 5 true x235005_2) ((rd_T24 l0 x14_1).f0) ((rd_T24 l0 x14_1).f1)) else (ropewayref04_Join.l1 k2 (wrap64 (x7_2 + 1)) l0 (l0.length : Int) x14_1 (stA x7_2 0 t239 x234000_2) (stA x7_2 1 t239 x234001_2) (stA x7_2 2 t239 x234002_2) (stA x7_2 3 t239 x234003_2) (stA x7_2 4 t239 x234004_2) (stA x7_2 5 t239 x234005_2) (stA x7_2 0 t240 x235000_2) (stA x7_2 1 t240 x235001_2) (stA x7_2 2 t240 x235002_2) (stA x7_2 3 t240 x235003_2) (stA x7_2 4 t240 x235004_2) (stA x7_2 5 t240 x235005_2) ((rd_T24 l0 x14_1).f0) ((rd_T24 l0 x14_1).f1))) = some (r1, r2) := by rw [if_neg (show ¬ (false = true) by decide)] at H; exact H
      clear H
      have H := H1
      clear H1
      obtain ⟨bq45, hbq45⟩ : ∃ b_ : Bool, b_ = (rdOf false [x235000_2, x235001_2, x235002_2, x235003_2, x235004_2, x235005_2] x7_2) := ⟨_, rfl⟩
      replace H : (if bq45 = true then (ropewayref04_Join.l1 k2 (wrap64 (x7_2 + 1)) l0 (l0.length : Int) x14_1 (stA x7_2 0 t239 x234000_2) (stA x7_2 1 t239 x234001_2) (stA x7_2 2 t239 x234002_2) (stA x7_2 3 t239 x234003_2) (stA x7_2 4 t239 x234004_2) (stA x7_2 5 t239 x234005_2) (stA x7_2 0 true x235000_2) (stA x7_2 1 true x235001_2) (stA x7_2 2 true x235002_2) (stA x7_2 3 true x235003_2) (stA x7_2 4 true x235004_2) (stA x7_2 5 true x235005_2) ((rd_T24 l0 x14_1).f0) ((rd_T24 l0 x14_1).f1)) else (ropewayref04_Join.l1 k2 (wrap64 (x7_2 + 1)) l0 (l0.length : Int) x14_1 (stA x7_2 0 t239 x234000_2) (stA x7_2 1 t239 x234001_2) (stA x7_2 2 t239 x234002_2) (stA x7_2 3 t239 x234003_2) (stA x7_2 4 t239 x234004_2) (stA x7_2 5 t239 x234005_2) (stA x7_2 0 t240 x235000_2) (stA x7_2 1 t240 x235001_2) (stA x7_2 2 t240 x235002_2) (stA x7_2 3 t240 x235003_2) (stA x7_2 4 t240 x235004_2) (stA x7_2 5 t240 x235005_2) ((rd_T24 l0 x14_1).f0) ((rd_T24 l0 x14_1).f1))) = some (r1, r2) := by rw [← hbq45] at H; exact H
      have Nbq45 := zM hbq45
      clear hbq45
      by_cases c46 : bq45 = true
      · subst c46
        have H1 : (ropewayref04_Join.l1 k2 (wrap64 (x7_2 + 1)) l0 (l0.length : Int) x14_1 (stA x7_2 0 t239 x234000_2) (stA x7_2 1 t239 x234001_2) (stA x7_2 2 t239 x234002_2) (stA x7_2 3 t239 x234003_2) (stA x7_2 4 t239 x234004_2) (stA x7_2 5 t239 x234005_2) (stA x7_2 0 true x235000_2) (stA x7_2 1 true x235001_2) (stA x7_2 2 true x235002_2) (stA x7_2 3 true x235003_2) (stA x7_2 4 true x235004_2) (stA x7_2 5 true x235005_2) ((rd_T24 l0 x14_1).f0) ((rd_T24 l0 x14_1).f1)) = some (r1, r2) := by rw [if_pos rfl] at H; exact H
        clear H
        have H := H1
        clear H1
        have H' := zM H
        clear H
        have hnb47 := NB238_232.out
        have hnc47 := NB232_238.out
        have hnb48 := NB238_233.out
        have hnc48 := NB233_238.out
        have hnb49 := NB238_234.out
        have hnc49 := NB234_238.out
        have hcz50_0 : wr.cell? ⟨gb238, 0, none⟩ = some (.int .i64 ((rd_T24 l0 x14_1).f0)) := (zL BK238.out 0).trans rfl
        have hcz50_1 : wr.cell? ⟨gb238, 1, none⟩ = some (.int .i64 ((rd_T24 l0 x14_1).f1)) := (zL BK238.out 1).trans rfl
        have hfz50_0 := zF BK238.out 0
        have hfz50_1 := zF BK238.out 1
        go_wp2_with (first | ((with_reducible refine gate_callee (f := 30) rfl ?_); refine goL_ (some 25) Try.func30 #[.agg #[.int .i64 ((rd_T24 l0 x14_1).f0), .int .i64 ((rd_T24 l0 x14_1).f1)], .int .i64 x7_2] ?_; (with_reducible refine (ropewayref04_Has.calls k2 ((rd_T24 l0 x14_1).f0) ((rd_T24 l0 x14_1).f1) x7_2 t239 t240 _ A19.out).mono ?_); rintro e w51 ⟨rfl, hb⟩; refine ⟨_, rfl, ?_⟩; replace BK232 := zM (bb_ BK232 hb); replace BK233 := zM (bb_ BK233 hb); replace BK234 := zM (bb_ BK234 hb); replace BK238 := zM (bb_ BK238 hb); replace HB := zM (zB bel_ hb); (try clear hb); (try clear hb2); (try clear hk); (try clear hi); have hnb52 := NB233_232.out; have hnc52 := NB232_233.out; have hnb53 := NB233_234.out; have hnc53 := NB234_233.out; have pdz54 : 0 ≤ (x7_2 : Int) := (of_decide_eq_true (by first | (with_reducible assumption) | assumption)); have qdz54 : (x7_2 : Int) < 6 := (of_decide_eq_true (by first | (with_reducible assumption) | assumption)); have hcdz54 : w51.cell? ⟨gb233, (x7_2 : Int).toNat, none⟩ = some (.bool (rdOf false [x234000_2, x234001_2, x234002_2, x234003_2, x234004_2, x234005_2] x7_2)) := arrC6 BK233.out x7_2 pdz54 qdz54; have hfdz54 := zF BK233.out (x7_2 : Int).toNat; (try rw [← Nbq21.out] at hcdz54); (try rw [← Nbq45.out] at hcdz54); replace pdz54 := eq_true pdz54; replace qdz54 := eq_true qdz54; have hnb55 := NB234_232.out; have hnc55 := NB232_234.out; have pdz56 : 0 ≤ (x7_2 : Int) := (of_decide_eq_true (by first | (with_reducible assumption) | assumption)); have qdz56 : (x7_2 : Int) < 6 := (of_decide_eq_true (by first | (with_reducible assumption) | assumption)); have hcdz56 : w51.cell? ⟨gb234, (x7_2 : Int).toNat, none⟩ = some (.bool (rdOf false [x235000_2, x235001_2, x235002_2, x235003_2, x235004_2, x235005_2] x7_2)) := arrC6 BK234.out x7_2 pdz56 qdz56; have hfdz56 := zF BK234.out (x7_2 : Int).toNat; (try rw [← Nbq21.out] at hcdz56); (try rw [← Nbq45.out] at hcdz56); replace pdz56 := eq_true pdz56; replace qdz56 := eq_true qdz56))
        go_roundg k2
        case measure => have := HK1.out; have := HK2.out; omega
        case rel => exact ⟨(wrap64 (x7_2 + 1)), (stA x7_2 0 t239 x234000_2), (stA x7_2 1 t239 x234001_2), (stA x7_2 2 t239 x234002_2), (stA x7_2 3 t239 x234003_2), (stA x7_2 4 t239 x234004_2), (stA x7_2 5 t239 x234005_2), (stA x7_2 0 true x235000_2), (stA x7_2 1 true x235001_2), (stA x7_2 2 true x235002_2), (stA x7_2 3 true x235003_2), (stA x7_2 4 true x235004_2), (stA x7_2 5 true x235005_2), (by first | rfl | (simp; done) | (simp [*]; done) | (simp; grind)), H', ⟨by have := HK1.out; have := HK2.out; omega⟩, ⟨blf_⟩, ⟨by (with_reducible repeat (first | refine zN ?_ _ | refine zD ?_ | refine zA ?_ _)); refine blk_far ?_ NB233_234.out _; (with_reducible repeat (first | refine zN ?_ _ | refine zD ?_ | refine zA ?_ _)); refine arrP6 ?_ x7_2 t239 (of_decide_eq_true (by first | (with_reducible assumption) | assumption)) (of_decide_eq_true (by first | (with_reducible assumption) | assumption)); (with_reducible repeat (first | refine zN ?_ _ | refine zD ?_ | refine zA ?_ _)); exact BK233.out⟩, ⟨by (with_reducible repeat (first | refine zN ?_ _ | refine zD ?_ | refine zA ?_ _)); refine arrP6 ?_ x7_2 true (of_decide_eq_true (by first | (with_reducible assumption) | assumption)) (of_decide_eq_true (by first | (with_reducible assumption) | assumption)); (with_reducible repeat (first | refine zN ?_ _ | refine zD ?_ | refine zA ?_ _)); refine blk_far ?_ NB234_233.out _; (with_reducible repeat (first | refine zN ?_ _ | refine zD ?_ | refine zA ?_ _)); exact BK234.out⟩, ⟨blf_⟩, ⟨bel_⟩⟩
      replace c46 := Bool.eq_false_iff.mpr c46
      subst c46
      have H1 : (ropewayref04_Join.l1 k2 (wrap64 (x7_2 + 1)) l0 (l0.length : Int) x14_1 (stA x7_2 0 t239 x234000_2) (stA x7_2 1 t239 x234001_2) (stA x7_2 2 t239 x234002_2) (stA x7_2 3 t239 x234003_2) (stA x7_2 4 t239 x234004_2) (stA x7_2 5 t239 x234005_2) (stA x7_2 0 t240 x235000_2) (stA x7_2 1 t240 x235001_2) (stA x7_2 2 t240 x235002_2) (stA x7_2 3 t240 x235003_2) (stA x7_2 4 t240 x235004_2) (stA x7_2 5 t240 x235005_2) ((rd_T24 l0 x14_1).f0) ((rd_T24 l0 x14_1).f1)) = some (r1, r2) := by rw [if_neg (show ¬ (false = true) by decide)] at H; exact H
      clear H
      have H := H1
      clear H1
      have H' := zM H
      clear H
      have hnb57 := NB238_232.out
      have hnc57 := NB232_238.out
      have hnb58 := NB238_233.out
      have hnc58 := NB233_238.out
      have hnb59 := NB238_234.out
      have hnc59 := NB234_238.out
      have hcz60_0 : wr.cell? ⟨gb238, 0, none⟩ = some (.int .i64 ((rd_T24 l0 x14_1).f0)) := (zL BK238.out 0).trans rfl
      have hcz60_1 : wr.cell? ⟨gb238, 1, none⟩ = some (.int .i64 ((rd_T24 l0 x14_1).f1)) := (zL BK238.out 1).trans rfl
      have hfz60_0 := zF BK238.out 0
      have hfz60_1 := zF BK238.out 1
      go_wp2_with (first | ((with_reducible refine gate_callee (f := 30) rfl ?_); refine goL_ (some 25) Try.func30 #[.agg #[.int .i64 ((rd_T24 l0 x14_1).f0), .int .i64 ((rd_T24 l0 x14_1).f1)], .int .i64 x7_2] ?_; (with_reducible refine (ropewayref04_Has.calls k2 ((rd_T24 l0 x14_1).f0) ((rd_T24 l0 x14_1).f1) x7_2 t239 t240 _ A19.out).mono ?_); rintro e w61 ⟨rfl, hb⟩; refine ⟨_, rfl, ?_⟩; replace BK232 := zM (bb_ BK232 hb); replace BK233 := zM (bb_ BK233 hb); replace BK234 := zM (bb_ BK234 hb); replace BK238 := zM (bb_ BK238 hb); replace HB := zM (zB bel_ hb); (try clear hb); (try clear hb2); (try clear hk); (try clear hi); have hnb62 := NB233_232.out; have hnc62 := NB232_233.out; have hnb63 := NB233_234.out; have hnc63 := NB234_233.out; have pdz64 : 0 ≤ (x7_2 : Int) := (of_decide_eq_true (by first | (with_reducible assumption) | assumption)); have qdz64 : (x7_2 : Int) < 6 := (of_decide_eq_true (by first | (with_reducible assumption) | assumption)); have hcdz64 : w61.cell? ⟨gb233, (x7_2 : Int).toNat, none⟩ = some (.bool (rdOf false [x234000_2, x234001_2, x234002_2, x234003_2, x234004_2, x234005_2] x7_2)) := arrC6 BK233.out x7_2 pdz64 qdz64; have hfdz64 := zF BK233.out (x7_2 : Int).toNat; (try rw [← Nbq21.out] at hcdz64); (try rw [← Nbq45.out] at hcdz64); replace pdz64 := eq_true pdz64; replace qdz64 := eq_true qdz64; have hnb65 := NB234_232.out; have hnc65 := NB232_234.out; have pdz66 : 0 ≤ (x7_2 : Int) := (of_decide_eq_true (by first | (with_reducible assumption) | assumption)); have qdz66 : (x7_2 : Int) < 6 := (of_decide_eq_true (by first | (with_reducible assumption) | assumption)); have hcdz66 : w61.cell? ⟨gb234, (x7_2 : Int).toNat, none⟩ = some (.bool (rdOf false [x235000_2, x235001_2, x235002_2, x235003_2, x235004_2, x235005_2] x7_2)) := arrC6 BK234.out x7_2 pdz66 qdz66; have hfdz66 := zF BK234.out (x7_2 : Int).toNat; (try rw [← Nbq21.out] at hcdz66); (try rw [← Nbq45.out] at hcdz66); replace pdz66 := eq_true pdz66; replace qdz66 := eq_true qdz66))
      go_roundg k2
      case measure => have := HK1.out; have := HK2.out; omega
      case rel => exact ⟨(wrap64 (x7_2 + 1)), (stA x7_2 0 t239 x234000_2), (stA x7_2 1 t239 x234001_2), (stA x7_2 2 t239 x234002_2), (stA x7_2 3 t239 x234003_2), (stA x7_2 4 t239 x234004_2), (stA x7_2 5 t239 x234005_2), (stA x7_2 0 t240 x235000_2), (stA x7_2 1 t240 x235001_2), (stA x7_2 2 t240 x235002_2), (stA x7_2 3 t240 x235003_2), (stA x7_2 4 t240 x235004_2), (stA x7_2 5 t240 x235005_2), (by first | rfl | (simp; done) | (simp [*]; done) | (simp; grind)), H', ⟨by have := HK1.out; have := HK2.out; omega⟩, ⟨blf_⟩, ⟨by (with_reducible repeat (first | refine zN ?_ _ | refine zD ?_ | refine zA ?_ _)); refine blk_far ?_ NB233_234.out _; (with_reducible repeat (first | refine zN ?_ _ | refine zD ?_ | refine zA ?_ _)); refine arrP6 ?_ x7_2 t239 (of_decide_eq_true (by first | (with_reducible assumption) | assumption)) (of_decide_eq_true (by first | (with_reducible assumption) | assumption)); (with_reducible repeat (first | refine zN ?_ _ | refine zD ?_ | refine zA ?_ _)); exact BK233.out⟩, ⟨by (with_reducible repeat (first | refine zN ?_ _ | refine zD ?_ | refine zA ?_ _)); refine arrP6 ?_ x7_2 t240 (of_decide_eq_true (by first | (with_reducible assumption) | assumption)) (of_decide_eq_true (by first | (with_reducible assumption) | assumption)); (with_reducible repeat (first | refine zN ?_ _ | refine zD ?_ | refine zA ?_ _)); refine blk_far ?_ NB234_233.out _; (with_reducible repeat (first | refine zN ?_ _ | refine zD ?_ | refine zA ?_ _)); exact BK234.out⟩, ⟨blf_⟩, ⟨bel_⟩⟩
/-! ### ropewayref16_New: function 13 -/
def ropewayref16_New.f (k : Nat) (a0_0 : Int) (a0_1 : Int) (a1_0 : Int) (a1_1 : Int) : Option ((List (S24)) × Int × Int) := (ropewayref04_Join.f k (([(⟨a0_0, a0_1⟩ : S24), (⟨a1_0, a1_1⟩ : S24)] : List (S24)))).bind fun bt250 => (some ((([(⟨a0_0, a0_1⟩ : S24)] : List (S24))), bt250.1, bt250.2))
theorem ropewayref16_New.mono : ∀ a0 a1 a2 a3 k, LeO (ropewayref16_New.f k a0 a1 a2 a3) (ropewayref16_New.f (k + 1) a0 a1 a2 a3) := by
  intro a0 a1 a2 a3 k
  unfold ropewayref16_New.f
  repeat' first
      | (with_reducible exact ropewayref04_Join.mono _ _)
      | (with_reducible exact LeO.refl _)
      | (with_reducible exact LeO.none _)
      | (with_reducible refine LeO.ite ?_ ?_)
      | (with_reducible refine LeO.bind ?_ (fun _ => ?_))
      | exact ropewayref04_Join.mono _ _
      | exact LeO.none _
      | refine LeO.ite ?_ ?_
      | refine LeO.bind ?_ (fun _ => ?_)
def ropewayref16_New.T1 : Bool × List (List Nat × List Nat) := (true, [([], []), ([0], [0]), ([], []), ([], []), ([2, 3], [2, 3]), ([4], [4]), ([1, 5], [1, 5]), ([6, 5, 0, 1, 2, 3, 4, 5, 6], [6])])
def ropewayref16_New.B1 : List Nat := [0, 1, 0, 0, 12, 28, 63, 127]
theorem ropewayref16_New.tab1 : rtab .any (opsOf Try.f13 1) = ropewayref16_New.T1 := by kernel_rfl
theorem ropewayref16_New.bits1 : waitsOk ropewayref16_New.T1.2 ropewayref16_New.B1 = true := by kernel_rfl
set_option maxHeartbeats 8000000 in
set_option maxRecDepth 100000 in
theorem ropewayref16_New.calls (k : Nat) (a0_0 : Int) (a0_1 : Int) (a1_0 : Int) (a1_1 : Int) (r1 : List (S24)) (r2 : Int) (r3 : Int) (w : World) (h : ropewayref16_New.f k a0_0 a0_1 a1_0 a1_1 = some (r1, r2, r3)) :
    Calls Try.prog 13 #[.agg #[.int .i64 a0_0, .int .i64 a0_1], .agg #[.int .i64 a1_0, .int .i64 a1_1]] w fun e w' => ∃ v0_ : Value, e = .returned (.agg #[v0_, .int .i64 r2, .int .i64 r3]) ∧ Kd.R k24 24 w' w.heap.size (fun _ => True) v0_ r1 ∧ Below w.heap.size w w' := by
  have hu24 := Try.underlying24
  have hu34 := Try.underlying34
  have HB := zM (Below.refl w.heap.size w)
  have H : ((ropewayref04_Join.f k (([(⟨a0_0, a0_1⟩ : S24), (⟨a1_0, a1_1⟩ : S24)] : List (S24)))).bind fun bt250 => (some ((([(⟨a0_0, a0_1⟩ : S24)] : List (S24))), bt250.1, bt250.2))) = some (r1, r2, r3) := h
  clear h
  obtain ⟨y244, hy244⟩ : ∃ y_ : List (S24), y_ = (([(⟨a0_0, a0_1⟩ : S24)] : List (S24))) := ⟨_, rfl⟩
  replace H : ((ropewayref04_Join.f k (([(⟨a0_0, a0_1⟩ : S24), (⟨a1_0, a1_1⟩ : S24)] : List (S24)))).bind fun bt250 => (some (y244, bt250.1, bt250.2))) = some (r1, r2, r3) := by first | (rw [hy244]; with_reducible exact H) | (have H2_ := (Option.bind_some _ _).symm.trans H; rw [hy244]; with_reducible exact H2_) | (have H2_ := (Option.bind_some _ _).symm.trans H; with_reducible exact H2_) | with_reducible exact H | (rw [hy244]; exact H) | exact H
  have Ny244 := zM hy244
  clear hy244
  obtain ⟨y247, hy247⟩ : ∃ y_ : List (S24), y_ = (([(⟨a0_0, a0_1⟩ : S24), (⟨a1_0, a1_1⟩ : S24)] : List (S24))) := ⟨_, rfl⟩
  replace H : ((ropewayref04_Join.f k y247).bind fun bt250 => (some (y244, bt250.1, bt250.2))) = some (r1, r2, r3) := by first | (rw [hy247]; with_reducible exact H) | (have H2_ := (Option.bind_some _ _).symm.trans H; rw [hy247]; with_reducible exact H2_) | (have H2_ := (Option.bind_some _ _).symm.trans H; with_reducible exact H2_) | with_reducible exact H | (rw [hy247]; exact H) | exact H
  have Ny247 := zM hy247
  clear hy247
  replace H := Option.bind_eq_some_iff.mp H
  obtain ⟨⟨t250, t251⟩, A30, H⟩ := H
  replace H : (some (y244, t250, t251)) = some (r1, r2, r3) := H
  have A3 := zM A30
  clear A30
  simp only [Option.some.injEq, Prod.mk.injEq] at H
  obtain ⟨rfl, rfl, rfl⟩ := H
  go_enter Try.func13, Try.ntmps13
  try go_wp2_with (first | ((with_reducible refine gate_dst (N := 2) rfl ?_); refine box_event ?hg (N := 2) ?hd (cs := #[.int .i64 a0_0, .int .i64 a0_1]) (t := 24) ?hr ?_; (case hd => rfl); (case hg => rfl); (case hr => first | (go_simp; done) | (go_simp; rfl)); intro gb241 hg w4 hbox hb; have BK241 := zM (hbox); have GW241 := zM (bs_ hg); have GE241 := zM (bs_ hg); replace HB := zM (zB bel_ hb); clear hb hbox hg) | ((with_reducible refine gate_dst (N := 3) rfl ?_); refine box_event ?hg (N := 3) ?hd (cs := #[.int .i64 a1_0, .int .i64 a1_1]) (t := 24) ?hr ?_; (case hd => rfl); (case hg => rfl); (case hr => first | (go_simp; done) | (go_simp; rfl)); intro gb242 hg w5 hbox hb; have BK242 := zM (hbox); have GW242 := zM (bs_ hg); have GE242 := zM (bs_ hg); replace HB := zM (zB bel_ hb); have NB241_242 := zM (nl_ BK241 hg); have NB242_241 := zM (ng_ BK241 hg); replace BK241 := zM (bb_ BK241 hb); clear hb hbox hg) | ((with_reducible refine gate_dst (N := 4) rfl ?_); refine box_event ?hg (N := 4) ?hd (cs := #[.slice none 0 0, .int .i64 0, .int .i64 0]) (t := 34) ?hr ?_; (case hd => rfl); (case hg => rfl); (case hr => first | (go_simp; done) | (go_simp; rfl)); intro gb243 hg w6 hbox hb; have BK243 := zM (hbox); have GW243 := zM (bs_ hg); have GE243 := zM (bs_ hg); replace HB := zM (zB bel_ hb); have NB241_243 := zM (nl_ BK241 hg); have NB243_241 := zM (ng_ BK241 hg); replace BK241 := zM (bb_ BK241 hb); have NB242_243 := zM (nl_ BK242 hg); have NB243_242 := zM (ng_ BK242 hg); replace BK242 := zM (bb_ BK242 hb); clear hb hbox hg))
  replace BK241 := zM (zD BK241.out)
  replace BK242 := zM (zD BK242.out)
  replace BK243 := zM (zD BK243.out)
  replace HB := zM (below_drew1 HB.out)
  refine start_ (n := 8) (S := fun w' => True) (ds := []) #[F_, F_, F_, F_, F_, F_, F_, F_] (by kernel_rfl) rfl rfl trivial (fun hHeld => ?_); refine with_tabW ropewayref16_New.tab1 ropewayref16_New.bits1 (fun HT_ HW_ => ?_)
  generalize w6.drew = w7 at BK241 BK242 BK243 HB hHeld ⊢
  refine inv_at [0, 1, 2, 3, 4, 5, 6, 7] (fun a0_ b a w' => ∃ (v245 : Value) (v248 : Value) (m6_ : Value), a = putSel a0_ b [(0, 5, .agg #[.int .i64 a0_0, .int .i64 a0_1]), (1, 6, v245), (2, 7, .agg #[.int .i64 a0_0, .int .i64 a0_1]), (3, 8, .agg #[.int .i64 a1_0, .int .i64 a1_1]), (4, 9, v248), (5, 10, .agg #[.int .i64 t250, .int .i64 t251]), (6, 11, m6_)] ∧ (w'.heap[gb241]? = some (.cells #[.int .i64 a0_0, .int .i64 a0_1] 24 (0, 0))) ∧ (w'.heap[gb242]? = some (.cells #[.int .i64 a1_0, .int .i64 a1_1] 24 (0, 0))) ∧ (b 7 = false → w'.heap[gb243]? = some (.cells #[.slice none 0 0, .int .i64 0, .int .i64 0] 34 (0, 0))) ∧ (Below w.heap.size w w') ∧ (b 1 = true → Kd.R k24 24 w' w.heap.size (fun k_ => k_ ≠ gb241 ∧ k_ ≠ gb242) v245 y244) ∧ (b 4 = true → Kd.R k24 24 w' w.heap.size (fun k_ => k_ ≠ gb241 ∧ k_ ≠ gb242) v248 y247) ∧ (b 7 = true → w'.heap[gb243]? = some (.cells #[v245, .int .i64 t250, .int .i64 t251] 34 (0, 0))) ∧ (b 6 = true → (m6_ : Value) = .agg #[v245, .int .i64 t250, .int .i64 t251])) HT_.out HW_.out (by kernel_rfl) (by kernel_rfl) ?_ ?_ ?_
  · exact ⟨.bool false, .bool false, .bool false, by simp only [putSel, Bool.false_eq_true, if_false], BK241.out, BK242.out, fun _ => BK243.out, HB.out, fun h_ => absurd h_ (by decide), fun h_ => absurd h_ (by decide), fun h_ => absurd h_ (by decide), fun h_ => absurd h_ (by decide)⟩
  · skip
    clear BK241 BK242 BK243 HB
    refine steps_cons ?_ ?_
    · rintro b a w' ⟨v245, v248, m6_, ha, Q_BK241, Q_BK242, Q_BK243, Q_HB, Q_HO246, Q_HO249, Q_BK243_e7, Q_X6_⟩ hb_ hon hoff
      refine ⟨_, rfl, fun K hK => ?_⟩
      have e2 : a.tmps[2]? = some (.pointer (some ⟨gb241, 0, none⟩)) := by rw [ha]; exact (putSel_off rfl).trans rfl
      replace ha := zM ha
      have BK241 := zM Q_BK241
      have BK242 := zM Q_BK242
      have BK243 := zM (Q_BK243 (hoff 7 (by kernel_rfl)))
      have HB := zM Q_HB
      have hc0_ : w'.cell? ⟨gb241, 0, none⟩ = some (.int .i64 a0_0) := (zL BK241.out 0).trans rfl
      have hc1_ : w'.cell? ⟨gb241, 1, none⟩ = some (.int .i64 a0_1) := (zL BK241.out 1).trans rfl
      refine value_ (w1 := w') (v := .agg #[.int .i64 a0_0, .int .i64 a0_1]) (by rfl) rfl ?_ ?_
      · go_simp
        (try simp only [i64_w])
        (try first | rfl | grind)
      refine hK.out _ _ ⟨v245, v248, m6_, (by rw [ha.out]; exact putSel_upk 0 hb_ rfl rfl rfl), Q_BK241, Q_BK242, Q_BK243, Q_HB, fun h0_ => absurd ((hoff 1 (by kernel_rfl)).symm.trans h0_) (by decide), Q_HO249, fun h0_ => absurd ((hoff 7 (by kernel_rfl)).symm.trans h0_) (by decide), fun h0_ => absurd ((hoff 6 (by kernel_rfl)).symm.trans h0_) (by decide)⟩
    refine steps_cons ?_ ?_
    · rintro b a w' ⟨v245, v248, m6_, ha, Q_BK241, Q_BK242, Q_BK243, Q_HB, Q_HO246, Q_HO249, Q_BK243_e7, Q_X6_⟩ hb_ hon hoff
      refine ⟨_, rfl, fun K hK => ?_⟩
      have e5 : a.tmps[5]? = some (.agg #[.int .i64 a0_0, .int .i64 a0_1]) := by rw [ha]; exact putSel_on (e := (0, 5, .agg #[.int .i64 a0_0, .int .i64 a0_1])) 0 rfl rfl (hon 0 (by kernel_rfl)) rfl
      replace ha := zM ha
      have BK241 := zM Q_BK241
      have BK242 := zM Q_BK242
      have BK243 := zM (Q_BK243 (hoff 7 (by kernel_rfl)))
      have HB := zM Q_HB
      refine Kd.R_lit_step k24 _ 24 ?hg (N := 6) ?hd (xs := ([(⟨a0_0, a0_1⟩ : S24)] : List (S24))) (inner := [.int .i64 a0_0, .int .i64 a0_1]) (ok := fun _ => True) (okp := fun _ => True) ?hr ?hp (fun _ hk => hk) trivial (Below.refl _ _) (Nat.le_refl _) (by simp) ?_; (case hd => rfl); (case hg => rfl); (case hr => first | (go_simp; done) | (go_simp; rfl)); (case hp => exact (Reps.c2 (show Kd.M k24 _ _ _ (⟨a0_0, a0_1⟩ : S24) [.int .i64 a0_0, .int .i64 a0_1] from (k24_mkM _ _ _ (⟨a0_0, a0_1⟩ : S24) )) (Reps.none _ _)))
      intro v245 w8 ho9 hb hg_ hnew_
      clear hg_ hnew_
      (first | rw [← Ny244.out] at ho9 | (simp only [Int.reduceToNat] at ho9; rw [← Ny244.out] at ho9))
      have n0_ := zM (Kd.R_lower (Kd.R_newB (Kd.R_newB ho9 (g := gb241) (o := .cells #[.int .i64 a0_0, .int .i64 a0_1] 24 (0, 0)) blk_) (g := gb242) (o := .cells #[.int .i64 a1_0, .int .i64 a1_1] 24 (0, 0)) blk_) (below_size bel_))
      have n1_ := zM (bb_ BK241 hb)
      have n2_ := zM (bb_ BK242 hb)
      have n3_ := zM (bb_ BK243 hb)
      have n4_ := zM (zB bel_ hb)
      have z_HO249 := fun (h0_ : b 4 = true) => (show Kd.R k24 24 w8 w.heap.size (fun k_ => k_ ≠ gb241 ∧ k_ ≠ gb242) v248 y247 from by first | exact (Kd.R_elder' (by (with_reducible repeat (first | apply Kd.R_alloc | apply Kd.R_drewN | apply Kd.R_drew)); exact (Q_HO249 h0_)) (Kd.R_base ho9) hb) | exact Kd.R_mono (Kd.R_elder' (by (with_reducible repeat (first | apply Kd.R_alloc | apply Kd.R_drewN | apply Kd.R_drew)); exact (Q_HO249 h0_)) (Kd.R_base ho9) hb) (fun _ h_ => by first | trivial | exact h_ | exact h_.1))
      clear BK241
      clear BK242
      clear BK243
      clear HB
      have HO246 := n0_
      have BK241 := n1_
      have BK242 := n2_
      have BK243 := n3_
      have HB := n4_
      clear n0_ n1_ n2_ n3_ n4_
      clear hb ho9
      refine hK.out _ _ ⟨v245, v248, m6_, (by rw [ha.out]; exact putSel_upk 1 hb_ rfl rfl rfl), blk_, blk_, fun _ => blk_, bel_, fun _ => (by (with_reducible repeat (first | apply Kd.R_alloc | apply Kd.R_drewN | apply Kd.R_drew)); exact Kd.R_mono HO246.out (fun _ hk => by first | exact ⟨hk.1.2, hk.2⟩ | grind)), z_HO249, fun h0_ => absurd ((hoff 7 (by kernel_rfl)).symm.trans h0_) (by decide), fun h0_ => absurd ((hoff 6 (by kernel_rfl)).symm.trans h0_) (by decide)⟩
    refine steps_cons ?_ ?_
    · rintro b a w' ⟨v245, v248, m6_, ha, Q_BK241, Q_BK242, Q_BK243, Q_HB, Q_HO246, Q_HO249, Q_BK243_e7, Q_X6_⟩ hb_ hon hoff
      refine ⟨_, rfl, fun K hK => ?_⟩
      have e2 : a.tmps[2]? = some (.pointer (some ⟨gb241, 0, none⟩)) := by rw [ha]; exact (putSel_off rfl).trans rfl
      replace ha := zM ha
      have BK241 := zM Q_BK241
      have BK242 := zM Q_BK242
      have BK243 := zM (Q_BK243 (hoff 7 (by kernel_rfl)))
      have HB := zM Q_HB
      have hc0_ : w'.cell? ⟨gb241, 0, none⟩ = some (.int .i64 a0_0) := (zL BK241.out 0).trans rfl
      have hc1_ : w'.cell? ⟨gb241, 1, none⟩ = some (.int .i64 a0_1) := (zL BK241.out 1).trans rfl
      refine value_ (w1 := w') (v := .agg #[.int .i64 a0_0, .int .i64 a0_1]) (by rfl) rfl ?_ ?_
      · go_simp
        (try simp only [i64_w])
        (try first | rfl | grind)
      refine hK.out _ _ ⟨v245, v248, m6_, (by rw [ha.out]; exact putSel_upk 2 hb_ rfl rfl rfl), Q_BK241, Q_BK242, Q_BK243, Q_HB, Q_HO246, fun h0_ => absurd ((hoff 4 (by kernel_rfl)).symm.trans h0_) (by decide), fun h0_ => absurd ((hoff 7 (by kernel_rfl)).symm.trans h0_) (by decide), fun h0_ => absurd ((hoff 6 (by kernel_rfl)).symm.trans h0_) (by decide)⟩
    refine steps_cons ?_ ?_
    · rintro b a w' ⟨v245, v248, m6_, ha, Q_BK241, Q_BK242, Q_BK243, Q_HB, Q_HO246, Q_HO249, Q_BK243_e7, Q_X6_⟩ hb_ hon hoff
      refine ⟨_, rfl, fun K hK => ?_⟩
      have e3 : a.tmps[3]? = some (.pointer (some ⟨gb242, 0, none⟩)) := by rw [ha]; exact (putSel_off rfl).trans rfl
      replace ha := zM ha
      have BK241 := zM Q_BK241
      have BK242 := zM Q_BK242
      have BK243 := zM (Q_BK243 (hoff 7 (by kernel_rfl)))
      have HB := zM Q_HB
      have hc0_ : w'.cell? ⟨gb242, 0, none⟩ = some (.int .i64 a1_0) := (zL BK242.out 0).trans rfl
      have hc1_ : w'.cell? ⟨gb242, 1, none⟩ = some (.int .i64 a1_1) := (zL BK242.out 1).trans rfl
      refine value_ (w1 := w') (v := .agg #[.int .i64 a1_0, .int .i64 a1_1]) (by rfl) rfl ?_ ?_
      · go_simp
        (try simp only [i64_w])
        (try first | rfl | grind)
      refine hK.out _ _ ⟨v245, v248, m6_, (by rw [ha.out]; exact putSel_upk 3 hb_ rfl rfl rfl), Q_BK241, Q_BK242, Q_BK243, Q_HB, Q_HO246, fun h0_ => absurd ((hoff 4 (by kernel_rfl)).symm.trans h0_) (by decide), fun h0_ => absurd ((hoff 7 (by kernel_rfl)).symm.trans h0_) (by decide), fun h0_ => absurd ((hoff 6 (by kernel_rfl)).symm.trans h0_) (by decide)⟩
    refine steps_cons ?_ ?_
    · rintro b a w' ⟨v245, v248, m6_, ha, Q_BK241, Q_BK242, Q_BK243, Q_HB, Q_HO246, Q_HO249, Q_BK243_e7, Q_X6_⟩ hb_ hon hoff
      refine ⟨_, rfl, fun K hK => ?_⟩
      have e7 : a.tmps[7]? = some (.agg #[.int .i64 a0_0, .int .i64 a0_1]) := by rw [ha]; exact putSel_on (e := (2, 7, .agg #[.int .i64 a0_0, .int .i64 a0_1])) 2 rfl rfl (hon 2 (by kernel_rfl)) rfl
      have e8 : a.tmps[8]? = some (.agg #[.int .i64 a1_0, .int .i64 a1_1]) := by rw [ha]; exact putSel_on (e := (3, 8, .agg #[.int .i64 a1_0, .int .i64 a1_1])) 3 rfl rfl (hon 3 (by kernel_rfl)) rfl
      replace ha := zM ha
      have BK241 := zM Q_BK241
      have BK242 := zM Q_BK242
      have BK243 := zM (Q_BK243 (hoff 7 (by kernel_rfl)))
      have HB := zM Q_HB
      refine Kd.R_lit_step k24 _ 24 ?hg (N := 9) ?hd (xs := ([(⟨a0_0, a0_1⟩ : S24), (⟨a1_0, a1_1⟩ : S24)] : List (S24))) (inner := [.int .i64 a0_0, .int .i64 a0_1, .int .i64 a1_0, .int .i64 a1_1]) (ok := fun _ => True) (okp := fun _ => True) ?hr ?hp (fun _ hk => hk) trivial (Below.refl _ _) (Nat.le_refl _) (by simp) ?_; (case hd => rfl); (case hg => rfl); (case hr => first | (go_simp; done) | (go_simp; rfl)); (case hp => exact (Reps.c2 (show Kd.M k24 _ _ _ (⟨a0_0, a0_1⟩ : S24) [.int .i64 a0_0, .int .i64 a0_1] from (k24_mkM _ _ _ (⟨a0_0, a0_1⟩ : S24) )) (Reps.c2 (show Kd.M k24 _ _ _ (⟨a1_0, a1_1⟩ : S24) [.int .i64 a1_0, .int .i64 a1_1] from (k24_mkM _ _ _ (⟨a1_0, a1_1⟩ : S24) )) (Reps.none _ _))))
      intro v248 w8 ho9 hb hg_ hnew_
      clear hg_ hnew_
      (first | rw [← Ny247.out] at ho9 | (simp only [Int.reduceToNat] at ho9; rw [← Ny247.out] at ho9))
      have n0_ := zM (Kd.R_lower (Kd.R_newB (Kd.R_newB ho9 (g := gb241) (o := .cells #[.int .i64 a0_0, .int .i64 a0_1] 24 (0, 0)) blk_) (g := gb242) (o := .cells #[.int .i64 a1_0, .int .i64 a1_1] 24 (0, 0)) blk_) (below_size bel_))
      have n1_ := zM (bb_ BK241 hb)
      have n2_ := zM (bb_ BK242 hb)
      have n3_ := zM (bb_ BK243 hb)
      have n4_ := zM (zB bel_ hb)
      have z_HO246 := fun (h0_ : b 1 = true) => (show Kd.R k24 24 w8 w.heap.size (fun k_ => k_ ≠ gb241 ∧ k_ ≠ gb242) v245 y244 from by first | exact (Kd.R_elder' (by (with_reducible repeat (first | apply Kd.R_alloc | apply Kd.R_drewN | apply Kd.R_drew)); exact (Q_HO246 h0_)) (Kd.R_base ho9) hb) | exact Kd.R_mono (Kd.R_elder' (by (with_reducible repeat (first | apply Kd.R_alloc | apply Kd.R_drewN | apply Kd.R_drew)); exact (Q_HO246 h0_)) (Kd.R_base ho9) hb) (fun _ h_ => by first | trivial | exact h_ | exact h_.1))
      clear BK241
      clear BK242
      clear BK243
      clear HB
      have HO249 := n0_
      have BK241 := n1_
      have BK242 := n2_
      have BK243 := n3_
      have HB := n4_
      clear n0_ n1_ n2_ n3_ n4_
      clear hb ho9
      refine hK.out _ _ ⟨v245, v248, m6_, (by rw [ha.out]; exact putSel_upk 4 hb_ rfl rfl rfl), blk_, blk_, fun _ => blk_, bel_, z_HO246, fun _ => (by (with_reducible repeat (first | apply Kd.R_alloc | apply Kd.R_drewN | apply Kd.R_drew)); exact Kd.R_mono HO249.out (fun _ hk => by first | exact ⟨hk.1.2, hk.2⟩ | grind)), fun h0_ => absurd ((hoff 7 (by kernel_rfl)).symm.trans h0_) (by decide), fun h0_ => absurd ((hoff 6 (by kernel_rfl)).symm.trans h0_) (by decide)⟩
    refine steps_cons ?_ ?_
    · rintro b a w' ⟨v245, v248, m6_, ha, Q_BK241, Q_BK242, Q_BK243, Q_HB, Q_HO246, Q_HO249, Q_BK243_e7, Q_X6_⟩ hb_ hon hoff
      refine ⟨_, rfl, fun K hK => ?_⟩
      have e9 : a.tmps[9]? = some (v248) := by rw [ha]; exact putSel_on (e := (4, 9, v248)) 4 rfl rfl (hon 4 (by kernel_rfl)) rfl
      replace ha := zM ha
      have BK241 := zM Q_BK241
      have BK242 := zM Q_BK242
      have BK243 := zM (Q_BK243 (hoff 7 (by kernel_rfl)))
      have HB := zM Q_HB
      have HO249 := zM (Q_HO249 (hon 4 (by kernel_rfl)))
      obtain ⟨Ao11, co11, eo11⟩ := Kd.R_slice HO249.out
      (first | subst eo11 | (injection eo11 with f1_ f2_ f3_; have f4_ := f1_.symm; have f5_ := f3_.symm; clear f1_ f2_ f3_; subst f4_; subst f5_))
      refine goes_ Try.func25 (by kernel_rfl) rfl #[.slice Ao11 y247.length co11] (by rfl) rfl rfl (by first | (simp only [List.map_toArray, List.map_cons, List.map_nil, Act.eval, Array.getD_eq_getD_getElem?, Option.getD_some, e9]; done) | (simp only [List.map_toArray, List.map_cons, List.map_nil, Act.eval, Array.getD_eq_getD_getElem?, Option.getD_some, e9]; rfl)) ?_
      with_reducible refine (ropewayref04_Join.calls k _ _ y247 t250 t251 _ ?side1 ?side2 A3.out).mono ?_
      (case side1 => repeat (first | exact (Kd.R_reads' HO249.out).2.2 | (with_reducible refine Kd.C_alloc ?_ _) | (with_reducible refine Kd.C_drewN ?_ _) | (with_reducible refine Kd.C_drew ?_)))
      (case side2 => exact (Kd.R_reads' HO249.out).2.1)
      rintro e w12 ⟨rfl, hb⟩
      refine ⟨_, rfl, ?_⟩
      have n0_ := zM (Kd.R_below (rl_ HO249) hb)
      have n1_ := zM (bb_ BK241 hb)
      have n2_ := zM (bb_ BK242 hb)
      have n3_ := zM (bb_ BK243 hb)
      have n4_ := zM (zB bel_ hb)
      have z_HO246 := fun (h0_ : b 1 = true) => (show Kd.R k24 24 w12 w.heap.size (fun k_ => k_ ≠ gb241 ∧ k_ ≠ gb242) v245 y244 from by first | exact (Kd.R_below (by (with_reducible repeat (first | apply Kd.R_alloc | apply Kd.R_drewN | apply Kd.R_drew)); exact (Q_HO246 h0_)) hb) | exact Kd.R_mono (Kd.R_below (by (with_reducible repeat (first | apply Kd.R_alloc | apply Kd.R_drewN | apply Kd.R_drew)); exact (Q_HO246 h0_)) hb) (fun _ h_ => by first | trivial | exact h_ | exact h_.1))
      clear HO249
      clear BK241
      clear BK242
      clear BK243
      clear HB
      have HO249 := n0_
      have BK241 := n1_
      have BK242 := n2_
      have BK243 := n3_
      have HB := n4_
      clear n0_ n1_ n2_ n3_ n4_
      (try clear hb)
      (try clear hb2)
      (try clear hk)
      (try clear hi)
      refine hK.out _ _ ⟨v245, .slice Ao11 y247.length co11, m6_, (by rw [ha.out]; exact putSel_upk 5 hb_ rfl rfl rfl), blk_, blk_, fun _ => blk_, bel_, z_HO246, fun _ => (rl_ HO249), fun h0_ => absurd ((hoff 7 (by kernel_rfl)).symm.trans h0_) (by decide), fun h0_ => absurd ((hoff 6 (by kernel_rfl)).symm.trans h0_) (by decide)⟩
    refine steps_cons ?_ ?_
    · rintro b a w' ⟨v245, v248, m6_, ha, Q_BK241, Q_BK242, Q_BK243, Q_HB, Q_HO246, Q_HO249, Q_BK243_e7, Q_X6_⟩ hb_ hon hoff
      refine ⟨_, rfl, fun K hK => ?_⟩
      have e6 : a.tmps[6]? = some (v245) := by rw [ha]; exact putSel_on (e := (1, 6, v245)) 1 rfl rfl (hon 1 (by kernel_rfl)) rfl
      have e10 : a.tmps[10]? = some (.agg #[.int .i64 t250, .int .i64 t251]) := by rw [ha]; exact putSel_on (e := (5, 10, .agg #[.int .i64 t250, .int .i64 t251])) 5 rfl rfl (hon 5 (by kernel_rfl)) rfl
      replace ha := zM ha
      have BK241 := zM Q_BK241
      have BK242 := zM Q_BK242
      have BK243 := zM (Q_BK243 (hoff 7 (by kernel_rfl)))
      have HB := zM Q_HB
      have HO246 := zM (Q_HO246 (hon 1 (by kernel_rfl)))
      have HO249 := zM (Q_HO249 (hon 4 (by kernel_rfl)))
      obtain ⟨Ao6_0, co6_0, eo_⟩ := Kd.R_slice HO246.out
      subst eo_
      refine value_ (w1 := w') (v := .agg #[.slice Ao6_0 y244.length co6_0, .int .i64 t250, .int .i64 t251]) (by rfl) rfl ?_ ?_
      · go_simp
        (try simp only [i64_w])
        (try first | rfl | grind)
      refine hK.out _ _ ⟨.slice Ao6_0 y244.length co6_0, v248, (.agg #[.slice Ao6_0 y244.length co6_0, .int .i64 t250, .int .i64 t251]), (by rw [ha.out]; exact putSel_upk 6 hb_ rfl rfl rfl), Q_BK241, Q_BK242, Q_BK243, Q_HB, Q_HO246, Q_HO249, fun h0_ => absurd ((hoff 7 (by kernel_rfl)).symm.trans h0_) (by decide), fun _ => rfl⟩
    refine steps_cons ?_ ?_
    · rintro b a w' ⟨v245, v248, m6_, ha, Q_BK241, Q_BK242, Q_BK243, Q_HB, Q_HO246, Q_HO249, Q_BK243_e7, Q_X6_⟩ hb_ hon hoff
      refine ⟨_, rfl, fun K hK => ?_⟩
      have e4 : a.tmps[4]? = some (.pointer (some ⟨gb243, 0, none⟩)) := by rw [ha]; exact (putSel_off rfl).trans rfl
      have e11 : a.tmps[11]? = some (m6_) := by rw [ha]; exact putSel_on (e := (6, 11, m6_)) 6 rfl rfl (hon 6 (by kernel_rfl)) rfl
      rw [Q_X6_ (hon 6 (by kernel_rfl))] at e11
      replace ha := zM ha
      have BK241 := zM Q_BK241
      have BK242 := zM Q_BK242
      have BK243 := zM (Q_BK243 hb_)
      have HB := zM Q_HB
      have HO246 := zM (Q_HO246 (hon 1 (by kernel_rfl)))
      have HO249 := zM (Q_HO249 (hon 4 (by kernel_rfl)))
      obtain ⟨Ao16, co16, eo16⟩ := Kd.R_slice HO246.out
      (first | subst eo16 | (injection eo16 with f1_ f2_ f3_; have f4_ := f1_.symm; have f5_ := f3_.symm; clear f1_ f2_ f3_; subst f4_; subst f5_))
      have hs17 : w'.cell? ⟨gb243, 0, none⟩ = some (.slice none 0 0) := (zL BK243.out 0).trans rfl
      have hfs17 := zF BK243.out 0
      have hns17_0 := NB241_243.out
      have hns17_1 := NB242_243.out
      have hms17_0 := NB243_241.out
      have hms17_1 := NB243_242.out
      have hs18 : w'.cell? ⟨gb243, 1, none⟩ = some (.int .i64 0) := (zL BK243.out 1).trans rfl
      have hfs18 := zF BK243.out 1
      have hns18_0 := NB241_243.out
      have hns18_1 := NB242_243.out
      have hms18_0 := NB243_241.out
      have hms18_1 := NB243_242.out
      have hs19 : w'.cell? ⟨gb243, 2, none⟩ = some (.int .i64 0) := (zL BK243.out 2).trans rfl
      have hfs19 := zF BK243.out 2
      have hns19_0 := NB241_243.out
      have hns19_1 := NB242_243.out
      have hms19_0 := NB243_241.out
      have hms19_1 := NB243_242.out
      refine skip_ (w1 := ?_) (by rfl) rfl ?_ ?_
      rotate_left
      · go_simp
        rfl
      refine hK.out _ _ ⟨.slice Ao16 y244.length co16, v248, m6_, (by rw [ha.out]; exact putSel_none (v := undef) rfl), blf_, blf_, fun h0_ => absurd ((up_self b 7).symm.trans h0_) (by decide), bel_, fun _ => (by (with_reducible repeat (first | apply Kd.R_alloc | apply Kd.R_drewN | apply Kd.R_drew)); exact Kd.R_mono (Kd.R_far (p := ⟨gb243, 2, none⟩) (Kd.R_far (p := ⟨gb243, 1, none⟩) (Kd.R_far (p := ⟨gb243, 0, none⟩) (Kd.R_types HO246.out BK243.out (by decide)) (fun _ hk => hk.2) (.slice Ao16 y244.length co16)) (fun _ hk => hk.2) (.int .i64 t250)) (fun _ hk => hk.2) (.int .i64 t251)) (fun _ hk => by first | exact ⟨hk.1.1, ⟨hk.1.2.1, hk.1.2.2⟩⟩ | grind)), fun _ => (by (with_reducible repeat (first | apply Kd.R_alloc | apply Kd.R_drewN | apply Kd.R_drew)); exact Kd.R_mono (Kd.R_far (p := ⟨gb243, 2, none⟩) (Kd.R_far (p := ⟨gb243, 1, none⟩) (Kd.R_far (p := ⟨gb243, 0, none⟩) (Kd.R_types HO249.out BK243.out (by decide)) (fun _ hk => hk.2) (.slice Ao16 y244.length co16)) (fun _ hk => hk.2) (.int .i64 t250)) (fun _ hk => hk.2) (.int .i64 t251)) (fun _ hk => by first | exact ⟨hk.1.1, ⟨hk.1.2.1, hk.1.2.2⟩⟩ | grind)), fun _ => (by (with_reducible repeat (first | refine zN ?_ _ | refine zD ?_ | refine zA ?_ _)); refine blk_put (cs := #[.slice Ao16 y244.length co16, .int .i64 t250, .int .i64 0]) ?_ 2 _ rfl; (with_reducible repeat (first | refine zN ?_ _ | refine zD ?_ | refine zA ?_ _)); refine blk_put (cs := #[.slice Ao16 y244.length co16, .int .i64 0, .int .i64 0]) ?_ 1 _ rfl; (with_reducible repeat (first | refine zN ?_ _ | refine zD ?_ | refine zA ?_ _)); refine blk_put (cs := #[.slice none 0 0, .int .i64 0, .int .i64 0]) ?_ 0 _ rfl; (with_reducible repeat (first | refine zN ?_ _ | refine zD ?_ | refine zA ?_ _)); exact BK243.out), Q_X6_⟩
    exact steps_nil
  rintro b a w18 hall ⟨v245, v248, m6_, ha, Q_BK241, Q_BK242, Q_BK243, Q_HB, Q_HO246, Q_HO249, Q_BK243_e7, Q_X6_⟩
  clear BK241 BK242 BK243 HB
  have hb0_ := hall 0 (by kernel_rfl)
  have hb1_ := hall 1 (by kernel_rfl)
  have hb2_ := hall 2 (by kernel_rfl)
  have hb3_ := hall 3 (by kernel_rfl)
  have hb4_ := hall 4 (by kernel_rfl)
  have hb5_ := hall 5 (by kernel_rfl)
  have hb6_ := hall 6 (by kernel_rfl)
  have hb7_ := hall 7 (by kernel_rfl)
  subst ha
  obtain rfl := Q_X6_ hb6_
  simp only [putSel, hb0_, hb1_, hb2_, hb3_, hb4_, hb5_, hb6_, hb7_, if_true, Act.put, zS, zZ, zC]
  have BK241 := zM Q_BK241
  clear Q_BK241
  have BK242 := zM Q_BK242
  clear Q_BK242
  clear Q_BK243
  have HB := zM Q_HB
  clear Q_HB
  have HO246 := zM (Q_HO246 hb1_)
  clear Q_HO246
  have HO249 := zM (Q_HO249 hb4_)
  clear Q_HO249
  have BK243 := zM (Q_BK243_e7 hb7_)
  clear Q_BK243_e7
  clear hall hb0_ hb1_ hb2_ hb3_ hb4_ hb5_ hb6_ hb7_
  obtain ⟨Ao19, co19, eo19⟩ := Kd.R_slice HO246.out
  (first | subst eo19 | (injection eo19 with f1_ f2_ f3_; have f4_ := f1_.symm; have f5_ := f3_.symm; clear f1_ f2_ f3_; subst f4_; subst f5_))
  try go_wp2
  refine bodyPost_ret (results_cell_row rfl _ _ gb243 34 #[.slice Ao19 y244.length co19, .int .i64 t250, .int .i64 t251] (0, 0) _ rfl blk_ Try.underlying34 rfl (by kernel_rfl)) rfl ?_
  exact ⟨_, by first | rfl | (simp [errW_none, errW_some] <;> rfl) | (simp [*, errW_none, errW_some] <;> rfl), by (with_reducible repeat (first | apply Kd.R_alloc | apply Kd.R_drewN | apply Kd.R_drew)); exact Kd.R_mono HO246.out (fun _ hk => trivial), bel_⟩
/-! ### ropewayref05_Same: function 15 -/
def ropewayref05_Same.l0 : Nat → List (S24) → List (S24) → Int → Int → Option (Bool)
  | 0, _, _, _, _ => none
  | k + 1, x0, x1, x12, x13 => if x13 < x12 then (if 0 ≤ x13 then (if x13 < (x0.length : Int) then (if x13 < (x1.length : Int) then (if (!(((rd_T24 x0 x13).f0) == ((rd_T24 x1 x13).f0)) || (!(((rd_T24 x0 x13).f1) == ((rd_T24 x1 x13).f1)))) = true then (some false) else (ropewayref05_Same.l0 k x0 x1 x12 (wrap64 (x13 + 1)))) else (none)) else (none)) else (none)) else (some true)
def ropewayref05_Same.f (k : Nat) (l0 : List (S24)) (l1 : List (S24)) : Option (Bool) := if (l0.length : Int) = (l1.length : Int) then (ropewayref05_Same.l0 k l0 l1 (l0.length : Int) 0) else (some false)
theorem ropewayref05_Same.mono_l : ∀ k, (∀ y0 y1 y2 y3, LeO (ropewayref05_Same.l0 k y0 y1 y2 y3) (ropewayref05_Same.l0 (k + 1) y0 y1 y2 y3))
  | 0 => fun _ _ _ _ r h => by simp [ropewayref05_Same.l0] at h
  | k + 1 => by
    have ih0 := ropewayref05_Same.mono_l k
    · intro y0 y1 y2 y3
      unfold ropewayref05_Same.l0
      repeat' first
      | (with_reducible exact ih0 _ _ _ _)
      | (with_reducible exact LeO.refl _)
      | (with_reducible exact LeO.none _)
      | (with_reducible refine LeO.ite ?_ ?_)
      | (with_reducible refine LeO.bind ?_ (fun _ => ?_))
      | exact ih0 _ _ _ _
      | exact LeO.none _
      | refine LeO.ite ?_ ?_
      | refine LeO.bind ?_ (fun _ => ?_)
theorem ropewayref05_Same.mono : ∀ a0 a1 k, LeO (ropewayref05_Same.f k a0 a1) (ropewayref05_Same.f (k + 1) a0 a1) := by
  intro a0 a1 k
  have ih0 := ropewayref05_Same.mono_l k
  unfold ropewayref05_Same.f
  repeat' first
      | (with_reducible exact ih0 _ _ _ _)
      | (with_reducible exact LeO.refl _)
      | (with_reducible exact LeO.none _)
      | (with_reducible refine LeO.ite ?_ ?_)
      | (with_reducible refine LeO.bind ?_ (fun _ => ?_))
      | exact ih0 _ _ _ _
      | exact LeO.none _
      | refine LeO.ite ?_ ?_
      | refine LeO.bind ?_ (fun _ => ?_)
set_option maxHeartbeats 8000000 in
set_option maxRecDepth 100000 in
theorem ropewayref05_Same.calls (k : Nat) (A0 : Option Addr) (c0 : Nat) (l0 : List (S24)) (A1 : Option Addr) (c1 : Nat) (l1 : List (S24)) (r : Bool) (w : World) (hr0 : Kd.C k24 w A0 l0.length l0) (hc0 : l0.length ≤ c0) (hr1 : Kd.C k24 w A1 l1.length l1) (hc1 : l1.length ≤ c1) (h : ropewayref05_Same.f k l0 l1 = some r) :
    Calls Try.prog 15 #[.slice A0 l0.length c0, .slice A1 l1.length c1] w fun e w' => e = .returned (.bool r) ∧ Drawn0 w w' := by
  have hu24 := Try.underlying24
  have HR0 := zM hr0
  have HC0 := zM hc0
  clear hr0 hc0
  have HR1 := zM hr1
  have HC1 := zM hc1
  clear hr1 hc1
  have H : (if (l0.length : Int) = (l1.length : Int) then (ropewayref05_Same.l0 k l0 l1 (l0.length : Int) 0) else (some false)) = some r := h
  clear h
  by_cases c3 : (l0.length : Int) = (l1.length : Int)
  rotate_left
  · rw [if_neg c3] at H
    have c3b0 : ((l0.length : Int) == (l1.length : Int)) = false := beq_eq_false_iff_ne.mpr c3
    have c3b1 : ((l0.length : Int) != (l1.length : Int)) = true := bne_iff_ne.mpr c3
    have c3b2 : (l0.length == l1.length) = false := by first | simpa using c3 | (simp at c3 ⊢; omega)
    obtain rfl := Option.some.inj H
    go_enter Try.func15, Try.ntmps15
    go_wp2
    repeat (go_quiet (fail); try go_wp2)
    go_ret
    exact ⟨by first | rfl | (simp; done) | (simp [*]; done) | (simp; grind), by repeat (first | exact Drawn0.refl _ | apply Drawn0.step)⟩
  rw [if_pos c3] at H
  have c3b0 : ((l0.length : Int) == (l1.length : Int)) = true := beq_iff_eq.mpr c3
  have c3b1 : ((l0.length : Int) != (l1.length : Int)) = false := bne_eq_false_iff_eq.mpr c3
  have c3b2 : (l0.length == l1.length) = true := by first | simpa using c3 | (simp at c3 ⊢; omega)
  clear c3
  have H' := zM H
  clear H
  go_enter Try.func15, Try.ntmps15
  go_wp2
  repeat (go_quiet (fail); try go_wp2)
  go_loopg [13] k (fun kq v13 w' => ∃ (x13_1 : Int), v13 = .int .i64 x13_1 ∧ Aside0 (ropewayref05_Same.l0 kq l0 l1 (l0.length : Int) x13_1 = some r) ∧ Aside0 (kq ≤ k) ∧ Drawn0 w w')
  case atStart => exact ⟨(0), (by first | rfl | (simp; done) | (simp [*]; done) | (simp; grind)), H', ⟨Nat.le_refl _⟩, by repeat (first | exact Drawn0.refl _ | apply Drawn0.step)⟩
  case round =>
   clear H'
   try clear c1
   try clear p2
   try clear c3
   try clear c3b0
   try clear c3b1
   try clear c3b2
   obtain ⟨x13_1, rfl, HA, HK1, ⟨m1, rfl⟩⟩ := hrel
   cases gk with
   | zero => exact absurd HA.out (by simp [ropewayref05_Same.l0])
   | succ k1 =>
    have H := HA.out
    clear HA
    simp only [ropewayref05_Same.l0] at H
    by_cases c4 : x13_1 < (l0.length : Int)
    rotate_left
    · rw [if_neg c4] at H
      have c4b0 : decide (x13_1 < (l0.length : Int)) = false := decide_eq_false c4
      clear c4
      obtain rfl := Option.some.inj H
      go_wp2
      repeat (go_quiet (fail); try go_wp2)
      go_ret
      exact ⟨by first | rfl | (simp; done) | (simp [*]; done) | (simp; grind), by repeat (first | exact Drawn0.refl _ | apply Drawn0.step)⟩
    rw [if_pos c4] at H
    have c4b0 : decide (x13_1 < (l0.length : Int)) = true := decide_eq_true c4
    clear c4
    by_cases c5 : 0 ≤ x13_1
    rotate_left
    · rw [if_neg c5] at H
      exact absurd H (by simp)
    rw [if_pos c5] at H
    have c5b0 : decide (0 ≤ x13_1) = true := decide_eq_true c5
    clear c5
    by_cases c6 : x13_1 < (l0.length : Int)
    rotate_left
    · rw [if_neg c6] at H
      exact absurd H (by simp)
    rw [if_pos c6] at H
    have c6b0 : decide (x13_1 < (l0.length : Int)) = true := decide_eq_true c6
    clear c6
    by_cases c7 : x13_1 < (l1.length : Int)
    rotate_left
    · rw [if_neg c7] at H
      exact absurd H (by simp)
    rw [if_pos c7] at H
    have c7b0 : decide (x13_1 < (l1.length : Int)) = true := decide_eq_true c7
    clear c7
    by_cases c8 : (!(((rd_T24 l0 x13_1).f0) == ((rd_T24 l1 x13_1).f0)) || (!(((rd_T24 l0 x13_1).f1) == ((rd_T24 l1 x13_1).f1)))) = true
    · rw [if_pos c8] at H
      have c8b0 : (!(((rd_T24 l0 x13_1).f0) == ((rd_T24 l1 x13_1).f0)) || (!(((rd_T24 l0 x13_1).f1) == ((rd_T24 l1 x13_1).f1)))) = true := c8
      clear c8
      obtain rfl := Option.some.inj H
      have p252 : 0 ≤ (x13_1 : Int) := of_decide_eq_true (by first | (with_reducible assumption) | assumption)
      have q252 : x13_1 < (l0.length : Int) := of_decide_eq_true (by first | (with_reducible assumption) | assumption)
      obtain ⟨ad252, e252, hx252_0, hx252_1⟩ := at_T24 HR0.out x13_1 p252 q252
      cases e252
      replace p252 := eq_true p252
      replace q252 := eq_true q252
      have p253 : 0 ≤ (x13_1 : Int) := of_decide_eq_true (by first | (with_reducible assumption) | assumption)
      have q253 : x13_1 < (l1.length : Int) := of_decide_eq_true (by first | (with_reducible assumption) | assumption)
      obtain ⟨ad253, e253, hx253_0, hx253_1⟩ := at_T24 HR1.out x13_1 p253 q253
      cases e253
      replace p253 := eq_true p253
      replace q253 := eq_true q253
      go_wp2
      repeat (go_quiet (fail); try go_wp2)
      go_ret
      exact ⟨by first | rfl | (simp; done) | (simp [*]; done) | (simp; grind), by repeat (first | exact Drawn0.refl _ | apply Drawn0.step)⟩
    rw [if_neg c8] at H
    have c8b0 : (!(((rd_T24 l0 x13_1).f0) == ((rd_T24 l1 x13_1).f0)) || (!(((rd_T24 l0 x13_1).f1) == ((rd_T24 l1 x13_1).f1)))) = false := by simpa using c8
    clear c8
    have H' := zM H
    clear H
    have p252 : 0 ≤ (x13_1 : Int) := of_decide_eq_true (by first | (with_reducible assumption) | assumption)
    have q252 : x13_1 < (l0.length : Int) := of_decide_eq_true (by first | (with_reducible assumption) | assumption)
    obtain ⟨ad252, e252, hx252_0, hx252_1⟩ := at_T24 HR0.out x13_1 p252 q252
    cases e252
    replace p252 := eq_true p252
    replace q252 := eq_true q252
    have p253 : 0 ≤ (x13_1 : Int) := of_decide_eq_true (by first | (with_reducible assumption) | assumption)
    have q253 : x13_1 < (l1.length : Int) := of_decide_eq_true (by first | (with_reducible assumption) | assumption)
    obtain ⟨ad253, e253, hx253_0, hx253_1⟩ := at_T24 HR1.out x13_1 p253 q253
    cases e253
    replace p253 := eq_true p253
    replace q253 := eq_true q253
    go_wp2
    repeat (go_quiet (fail); try go_wp2)
    go_roundg k1
    case measure => have := HK1.out; omega
    case rel => exact ⟨(wrap64 (x13_1 + 1)), (by first | rfl | (simp; done) | (simp [*]; done) | (simp; grind)), H', ⟨by have := HK1.out; omega⟩, by repeat (first | exact Drawn0.refl _ | apply Drawn0.step)⟩
end Go.Proofs.Ytjfmhahlmnnacaa.PFrontSteps
