/- Written by a program of this session (wip/tool/px.py) over the kit's print: what the code that the law PastSources reaches computes, function by function, and the law's row. -/
import Derived.Test.YtmenkbdaabjojaaPPastSourcesx0
import Derived.Test.YtmenkbdaabjojaaPPastSourcesx1
import Derived.Test.YtmenkbdaabjojaaPPastSourcesx5
import Derived.Test.YtmenkbdaabjojaaPPastSourcesx7
namespace Go.Proofs.Ytmenkbdaabjojaa.PPastSources
open Go.RowKit Go.Proofs.YtmenkbdaabjojaaX Go.Proofs.YtmenkbdaabjojaaW.PrintWords Go.Proofs.YtmenkbdaabjojaaW.PrintLast Go.Proofs.YtmenkbdaabjojaaW.PrintMore
open List renaming setIfInBounds_toArray → zS, set_cons_zero → zZ, set_cons_succ → zC
open Go.Proofs.YtmenkbdaabjojaaW.PrintWords renaming blk_drewN → zN, blk_drew → zD, blk_alloc → zA, blk_cell → zL, blk_frozen → zF, below_step → zB
open Go.Proofs.YtmenkbdaabjojaaW.PrintWords.Aside0 renaming mk → zM
attribute [local go_sem] max2_int min2_int max_two min_two max_three min_three max_four min_four   -- for this text's walks alone
set_option linter.unusedVariables false
set_option linter.unusedSimpArgs false

attribute [local go_sem] px_store_float px_neg_float px_call40
attribute [local go_sem high] eqA24
/-! ### change_Within: function 28 -/
def change_Within.f (a0_0 : Int) (a0_1 : Int) (a1_0 : Int) (a1_1 : Int) : Option (Bool) := (change_Minus.f a0_0 a0_1 a1_0 a1_1).bind fun bt168 => (some (bt168.1 == 0 && (bt168.2 == 0)))
set_option maxHeartbeats 8000000 in
set_option maxRecDepth 100000 in
theorem change_Within.calls (a0_0 : Int) (a0_1 : Int) (a1_0 : Int) (a1_1 : Int) (r : Bool) (w : World) (h : change_Within.f a0_0 a0_1 a1_0 a1_1 = some r) :
    Calls Try.prog 28 #[.agg #[.int .i64 a0_0, .int .i64 a0_1], .agg #[.int .i64 a1_0, .int .i64 a1_1]] w fun e w' => e = .returned (.bool r) ∧ Below w.heap.size w w' := by
  have hu24 := Try.underlying24
  have HB := zM (Below.refl w.heap.size w)
  have H : ((change_Minus.f a0_0 a0_1 a1_0 a1_1).bind fun bt168 => (some (bt168.1 == 0 && (bt168.2 == 0)))) = some r := h
  clear h
  replace H := Option.bind_eq_some_iff.mp H
  obtain ⟨⟨t168, t169⟩, A30, H⟩ := H
  replace H : (some (t168 == 0 && (t169 == 0))) = some r := H
  have A3 := zM A30
  clear A30
  obtain rfl := Option.some.inj H
  go_enter Try.func28, Try.ntmps28
  go_wp2_with (first | ((with_reducible refine gld_ (t := 35) ?_); (try (refine gate_guard (by rfl) ?_; dsimp only)); first | refine wl15_ rfl 35 _ rfl rfl Try.underlying35 rfl (by kernel_rfl) ?_ | refine wlr15_ rfl 35 _ rfl rfl Try.underlying35 rfl (by kernel_rfl) ?_) | ((with_reducible refine gst_ (t := 35) ?_); refine ws15_ rfl 35 _ _ rfl rfl rfl (by kernel_rfl) ?_) | ((with_reducible refine gate_dst (N := 2) rfl ?_); refine box_event ?hg (N := 2) ?hd (cs := #[.int .i64 a0_0, .int .i64 a0_1]) (t := 24) ?hr ?_; (case hd => rfl); (case hg => rfl); (case hr => first | (go_simp; done) | (go_simp; rfl)); intro gb166 hg w4 hbox hb; have BK166 := zM (hbox); have GW166 := zM (bs_ hg); have GE166 := zM (bs_ hg); replace HB := zM (zB bel_ hb); clear hb hbox hg) | ((with_reducible refine gate_dst (N := 3) rfl ?_); refine box_event ?hg (N := 3) ?hd (cs := #[.int .i64 a1_0, .int .i64 a1_1]) (t := 24) ?hr ?_; (case hd => rfl); (case hg => rfl); (case hr => first | (go_simp; done) | (go_simp; rfl)); intro gb167 hg w5 hbox hb; have BK167 := zM (hbox); have GW167 := zM (bs_ hg); have GE167 := zM (bs_ hg); replace HB := zM (zB bel_ hb); have NB166_167 := zM (nl_ BK166 hg); have NB167_166 := zM (ng_ BK166 hg); replace BK166 := zM (bb_ BK166 hb); clear hb hbox hg; have hnb6 := NB166_167.out; have hnc6 := NB167_166.out; have hcz7_0 : w5.cell? ⟨gb166, 0, none⟩ = some (.int .i64 a0_0) := (zL BK166.out 0).trans rfl; have hcz7_1 : w5.cell? ⟨gb166, 1, none⟩ = some (.int .i64 a0_1) := (zL BK166.out 1).trans rfl; have hfz7_0 := zF BK166.out 0; have hfz7_1 := zF BK166.out 1; have hcz8_0 : w5.cell? ⟨gb167, 0, none⟩ = some (.int .i64 a1_0) := (zL BK167.out 0).trans rfl; have hcz8_1 : w5.cell? ⟨gb167, 1, none⟩ = some (.int .i64 a1_1) := (zL BK167.out 1).trans rfl; have hfz8_0 := zF BK167.out 0; have hfz8_1 := zF BK167.out 1) | ((with_reducible refine gate_callee (f := 45) rfl ?_); refine goL_ (some 7) Try.func45 #[.agg #[.int .i64 a0_0, .int .i64 a0_1], .agg #[.int .i64 a1_0, .int .i64 a1_1]] ?_; (with_reducible refine (change_Minus.calls a0_0 a0_1 a1_0 a1_1 t168 t169 _ A3.out).mono ?_); rintro e w9 ⟨rfl, hb⟩; refine ⟨_, rfl, ?_⟩; replace BK166 := zM (bb_ BK166 hb); replace BK167 := zM (bb_ BK167 hb); replace HB := zM (zB bel_ hb); (try clear hb); (try clear hb2); (try clear hk); (try clear hi)))
  go_ret
  exact ⟨by first | rfl | (simp [errW_none, errW_some] <;> rfl) | (simp [*, errW_none, errW_some] <;> rfl), bel_⟩
/-! ### change_Join: function 44 -/
def change_Join.l0 : Nat → List (S24) → Int → Int → Int → Int → Option (Int × Int)
  | 0, _, _, _, _, _ => none
  | k + 1, x6, x7, x8, x172000, x172001 => if x8 < x7 then (if 0 ≤ x8 then (if x8 < (x6.length : Int) then (change_Join.l0 k x6 x7 (wrap64 (x8 + 1)) (Go.bits .or .i64 x172000 ((rd_T24 x6 x8).f0)) (Go.bits .or .i64 x172001 ((rd_T24 x6 x8).f1))) else (none)) else (none)) else (some (x172000, x172001))
def change_Join.f (k : Nat) (l0 : List (S24)) : Option (Int × Int) := change_Join.l0 k l0 (l0.length : Int) 0 0 0
theorem change_Join.mono_l : ∀ k, (∀ y0 y1 y2 y3 y4, LeO (change_Join.l0 k y0 y1 y2 y3 y4) (change_Join.l0 (k + 1) y0 y1 y2 y3 y4))
  | 0 => fun _ _ _ _ _ r h => by simp [change_Join.l0] at h
  | k + 1 => by
    have ih0 := change_Join.mono_l k
    · intro y0 y1 y2 y3 y4
      unfold change_Join.l0
      repeat' first
      | (with_reducible exact ih0 _ _ _ _ _)
      | (with_reducible exact LeO.refl _)
      | (with_reducible exact LeO.none _)
      | (with_reducible refine LeO.ite ?_ ?_)
      | (with_reducible refine LeO.bind ?_ (fun _ => ?_))
      | exact ih0 _ _ _ _ _
      | exact LeO.none _
      | refine LeO.ite ?_ ?_
      | refine LeO.bind ?_ (fun _ => ?_)
theorem change_Join.mono : ∀ a0 k, LeO (change_Join.f k a0) (change_Join.f (k + 1) a0) := by
  intro a0 k
  have ih0 := change_Join.mono_l k
  unfold change_Join.f
  repeat' first
      | (with_reducible exact ih0 _ _ _ _ _)
      | (with_reducible exact LeO.refl _)
      | (with_reducible exact LeO.none _)
      | (with_reducible refine LeO.ite ?_ ?_)
      | (with_reducible refine LeO.bind ?_ (fun _ => ?_))
      | exact ih0 _ _ _ _ _
      | exact LeO.none _
      | refine LeO.ite ?_ ?_
      | refine LeO.bind ?_ (fun _ => ?_)
set_option maxHeartbeats 8000000 in
set_option maxRecDepth 100000 in
theorem change_Join.calls (k : Nat) (A0 : Option Addr) (c0 : Nat) (l0 : List (S24)) (r1 : Int) (r2 : Int) (w : World) (hr0 : Kd.C k24 w A0 l0.length l0) (hc0 : l0.length ≤ c0) (h : change_Join.f k l0 = some (r1, r2)) :
    Calls Try.prog 44 #[.slice A0 l0.length c0] w fun e w' => e = .returned (.agg #[.int .i64 r1, .int .i64 r2]) ∧ Below w.heap.size w w' := by
  have hu24 := Try.underlying24
  have HR0 := zM hr0
  have HC0 := zM hc0
  clear hr0 hc0
  have HB := zM (Below.refl w.heap.size w)
  have H : (change_Join.l0 k l0 (l0.length : Int) 0 0 0) = some (r1, r2) := h
  clear h
  have H' := zM H
  clear H
  go_enter Try.func44, Try.ntmps44
  go_wp2_with (first | ((with_reducible refine gld_ (t := 35) ?_); (try (refine gate_guard (by rfl) ?_; dsimp only)); first | refine wl15_ rfl 35 _ rfl rfl Try.underlying35 rfl (by kernel_rfl) ?_ | refine wlr15_ rfl 35 _ rfl rfl Try.underlying35 rfl (by kernel_rfl) ?_) | ((with_reducible refine gst_ (t := 35) ?_); refine ws15_ rfl 35 _ _ rfl rfl rfl (by kernel_rfl) ?_) | ((with_reducible refine gate_dst (N := 2) rfl ?_); refine box_event ?hg (N := 2) ?hd (cs := #[.int .i64 0, .int .i64 0]) (t := 24) ?hr ?_; (case hd => rfl); (case hg => rfl); (case hr => first | (go_simp; done) | (go_simp; rfl)); intro gb170 hg w2 hbox hb; have BK170 := zM (hbox); have GW170 := zM (bs_ hg); have GE170 := zM (bs_ hg); replace HB := zM (zB bel_ hb); clear hb hbox hg) | ((with_reducible refine gate_dst (N := 3) rfl ?_); refine box_event ?hg (N := 3) ?hd (cs := #[.int .i64 0, .int .i64 0]) (t := 24) ?hr ?_; (case hd => rfl); (case hg => rfl); (case hr => first | (go_simp; done) | (go_simp; rfl)); intro gb171 hg w3 hbox hb; have BK171 := zM (hbox); have GW171 := zM (bs_ hg); have GE171 := zM (bs_ hg); replace HB := zM (zB bel_ hb); have NB170_171 := zM (nl_ BK170 hg); have NB171_170 := zM (ng_ BK170 hg); replace BK170 := zM (bb_ BK170 hb); clear hb hbox hg))
  go_loopg [8] k (fun kq v8 w' => ∃ (x8_1 : Int) (x172000_1 : Int) (x172001_1 : Int), v8 = .int .i64 x8_1 ∧ Aside0 (change_Join.l0 kq l0 (l0.length : Int) x8_1 x172000_1 x172001_1 = some (r1, r2)) ∧ Aside0 (kq ≤ k) ∧ Aside0 (w'.heap[gb170]? = some (.cells #[.int .i64 0, .int .i64 0] 24 (0, 0))) ∧ Aside0 (w'.heap[gb171]? = some (.cells #[.int .i64 x172000_1, .int .i64 x172001_1] 24 (0, 0))) ∧ Aside0 (Below w.heap.size w w'))
  case atStart => exact ⟨(0), (0), (0), (by first | rfl | (simp; done) | (simp [*]; done) | (simp; grind)), H', ⟨Nat.le_refl _⟩, ⟨blf_⟩, ⟨blf_⟩, ⟨bel_⟩⟩
  case round =>
   clear H'
   try clear p2
   obtain ⟨x8_1, x172000_1, x172001_1, rfl, HA, HK1, BK170, BK171, HB⟩ := hrel
   cases gk with
   | zero => exact absurd HA.out (by simp [change_Join.l0])
   | succ k1 =>
    have H := HA.out
    clear HA
    simp only [change_Join.l0] at H
    by_cases c4 : x8_1 < (l0.length : Int)
    rotate_left
    · rw [if_neg c4] at H
      have c4b0 : decide (x8_1 < (l0.length : Int)) = false := decide_eq_false c4
      clear c4
      simp only [Option.some.injEq, Prod.mk.injEq] at H
      obtain ⟨rfl, rfl⟩ := H
      have hnb13 := NB171_170.out
      have hnc13 := NB170_171.out
      have hcz14_0 : wr.cell? ⟨gb171, 0, none⟩ = some (.int .i64 x172000_1) := (zL BK171.out 0).trans rfl
      have hcz14_1 : wr.cell? ⟨gb171, 1, none⟩ = some (.int .i64 x172001_1) := (zL BK171.out 1).trans rfl
      have hfz14_0 := zF BK171.out 0
      have hfz14_1 := zF BK171.out 1
      have hcz15_0 : wr.cell? ⟨gb170, 0, none⟩ = some (.int .i64 0) := (zL BK170.out 0).trans rfl
      have hcz15_1 : wr.cell? ⟨gb170, 1, none⟩ = some (.int .i64 0) := (zL BK170.out 1).trans rfl
      have hfz15_0 := zF BK170.out 0
      have hfz15_1 := zF BK170.out 1
      go_wp2
      refine bodyPost_ret (results_cell_row rfl _ _ gb170 24 #[.int .i64 x172000_1, .int .i64 x172001_1] (0, 0) _ rfl (by (with_reducible repeat (first | refine zN ?_ _ | refine zD ?_ | refine zA ?_ _)); refine blk_put (cs := #[.int .i64 x172000_1, .int .i64 0]) ?_ 1 _ rfl; (with_reducible repeat (first | refine zN ?_ _ | refine zD ?_ | refine zA ?_ _)); refine blk_put (cs := #[.int .i64 0, .int .i64 0]) ?_ 0 _ rfl; (with_reducible repeat (first | refine zN ?_ _ | refine zD ?_ | refine zA ?_ _)); exact BK170.out) Try.underlying24 rfl (by kernel_rfl)) rfl ?_
      exact ⟨by first | rfl | (simp [errW_none, errW_some] <;> rfl) | (simp [*, errW_none, errW_some] <;> rfl), bel_⟩
    rw [if_pos c4] at H
    have c4b0 : decide (x8_1 < (l0.length : Int)) = true := decide_eq_true c4
    clear c4
    by_cases c5 : 0 ≤ x8_1
    rotate_left
    · rw [if_neg c5] at H
      exact absurd H (by simp)
    rw [if_pos c5] at H
    have c5b0 : decide (0 ≤ x8_1) = true := decide_eq_true c5
    clear c5
    by_cases c6 : x8_1 < (l0.length : Int)
    rotate_left
    · rw [if_neg c6] at H
      exact absurd H (by simp)
    rw [if_pos c6] at H
    have c6b0 : decide (x8_1 < (l0.length : Int)) = true := decide_eq_true c6
    clear c6
    have H' := zM H
    clear H
    have p172 : 0 ≤ (x8_1 : Int) := of_decide_eq_true (by first | (with_reducible assumption) | assumption)
    have q172 : x8_1 < (l0.length : Int) := of_decide_eq_true (by first | (with_reducible assumption) | assumption)
    obtain ⟨ad172, e172, hx172_0, hx172_1⟩ := at_T24 HR0.out x8_1 p172 q172
    cases e172
    replace hx172_0 := (HB.out.cell (World.block_lt_of_cell? w _ hx172_0)).trans hx172_0
    replace hx172_1 := (HB.out.cell (World.block_lt_of_cell? w _ hx172_1)).trans hx172_1
    replace p172 := eq_true p172
    replace q172 := eq_true q172
    go_wp2_with (first | ((with_reducible refine gld_ (t := 35) ?_); (try (refine gate_guard (by rfl) ?_; dsimp only)); first | refine wl15_ rfl 35 _ rfl rfl Try.underlying35 rfl (by kernel_rfl) ?_ | refine wlr15_ rfl 35 _ rfl rfl Try.underlying35 rfl (by kernel_rfl) ?_) | ((with_reducible refine gst_ (t := 35) ?_); refine ws15_ rfl 35 _ _ rfl rfl rfl (by kernel_rfl) ?_) | ((with_reducible refine gate_dst (N := 5) rfl ?_); refine box_event ?hg (N := 5) ?hd (cs := #[.int .i64 0, .int .i64 0]) (t := 24) ?hr ?_; (case hd => rfl); (case hg => rfl); (case hr => first | (go_simp; done) | (go_simp; rfl)); intro gb173 hg w7 hbox hb; have BK173 := zM (hbox); have GW173 := zM (bs_ hg); have GE173 := zM (bs_ hg); replace HB := zM (zB bel_ hb); have NB170_173 := zM (nl_ BK170 hg); have NB173_170 := zM (ng_ BK170 hg); replace BK170 := zM (bb_ BK170 hb); have NB171_173 := zM (nl_ BK171 hg); have NB173_171 := zM (ng_ BK171 hg); replace BK171 := zM (bb_ BK171 hb); clear hb hbox hg; have hnb8 := NB173_170.out; have hnc8 := NB170_173.out; have hnb9 := NB173_171.out; have hnc9 := NB171_173.out; have hcz10_0 : w7.cell? ⟨gb173, 0, none⟩ = some (.int .i64 0) := (zL BK173.out 0).trans rfl; have hcz10_1 : w7.cell? ⟨gb173, 1, none⟩ = some (.int .i64 0) := (zL BK173.out 1).trans rfl; have hfz10_0 := zF BK173.out 0; have hfz10_1 := zF BK173.out 1; have hnb11 := NB171_170.out; have hnc11 := NB170_171.out; have hcz12_0 : w7.cell? ⟨gb171, 0, none⟩ = some (.int .i64 x172000_1) := (zL BK171.out 0).trans rfl; have hcz12_1 : w7.cell? ⟨gb171, 1, none⟩ = some (.int .i64 x172001_1) := (zL BK171.out 1).trans rfl; have hfz12_0 := zF BK171.out 0; have hfz12_1 := zF BK171.out 1))
    go_roundg k1
    case measure => have := HK1.out; omega
    case rel => exact ⟨(wrap64 (x8_1 + 1)), (Go.bits .or .i64 x172000_1 ((rd_T24 l0 x8_1).f0)), (Go.bits .or .i64 x172001_1 ((rd_T24 l0 x8_1).f1)), (by first | rfl | (simp; done) | (simp [*]; done) | (simp; grind)), H', ⟨by have := HK1.out; omega⟩, ⟨blf_⟩, ⟨by (with_reducible repeat (first | refine zN ?_ _ | refine zD ?_ | refine zA ?_ _)); refine blk_put (cs := #[.int .i64 (Go.bits .or .i64 x172000_1 ((rd_T24 l0 x8_1).f0)), .int .i64 x172001_1]) ?_ 1 _ rfl; (with_reducible repeat (first | refine zN ?_ _ | refine zD ?_ | refine zA ?_ _)); refine blk_put (cs := #[.int .i64 x172000_1, .int .i64 x172001_1]) ?_ 0 _ rfl; (with_reducible repeat (first | refine zN ?_ _ | refine zD ?_ | refine zA ?_ _)); refine blk_far ?_ NB171_173.out _; (with_reducible repeat (first | refine zN ?_ _ | refine zD ?_ | refine zA ?_ _)); refine blk_far ?_ NB171_173.out _; (with_reducible repeat (first | refine zN ?_ _ | refine zD ?_ | refine zA ?_ _)); exact BK171.out⟩, ⟨bel_⟩⟩
/-! ### past_made: function 27 -/
def past_made.l0 : Nat → Int → List (S35) → Int → Int → Int → Int → Int → Int → Option (Int × Int)
  | 0, _, _, _, _, _, _, _, _ => none
  | k + 1, x3, x13, x14, x15, x176000, x176001, x178000, x178001 => if x15 < x14 then (if 0 ≤ x15 then (if x15 < (x13.length : Int) then (if ((rd_T35 x13 x15).f3.f0) = 2 then (if ((rd_T35 x13 x15).f1) ≤ x3 then ((change_Within.f ((rd_T35 x13 x15).f3.f3.f0) ((rd_T35 x13 x15).f3.f3.f1) x176000 x176001).bind fun t180 => (if t180 = true then ((change_Join.f k (([(⟨x178000, x178001⟩ : S24), (⟨(rd_T35 x13 x15).f3.f3.f0, (rd_T35 x13 x15).f3.f3.f1⟩ : S24)] : List (S24)))).bind fun bt184 => (past_made.l0 k x3 x13 x14 (wrap64 (x15 + 1)) x176000 x176001 bt184.1 bt184.2)) else (past_made.l0 k x3 x13 x14 (wrap64 (x15 + 1)) x176000 x176001 x178000 x178001))) else (past_made.l0 k x3 x13 x14 (wrap64 (x15 + 1)) x176000 x176001 x178000 x178001)) else (past_made.l0 k x3 x13 x14 (wrap64 (x15 + 1)) x176000 x176001 x178000 x178001)) else (none)) else (none)) else (some (x178000, x178001))
def past_made.f (k : Nat) (a0_0 : Int) (a0_1 : Int) (a1_0 : Int) (a1_1 : Int) (l2 : List (S35)) (a3 : Int) : Option (Int × Int) := past_made.l0 k a3 l2 (l2.length : Int) 0 a1_0 a1_1 a0_0 a0_1
theorem past_made.mono_l : ∀ k, (∀ y0 y1 y2 y3 y4 y5 y6 y7, LeO (past_made.l0 k y0 y1 y2 y3 y4 y5 y6 y7) (past_made.l0 (k + 1) y0 y1 y2 y3 y4 y5 y6 y7))
  | 0 => fun _ _ _ _ _ _ _ _ r h => by simp [past_made.l0] at h
  | k + 1 => by
    have ih0 := past_made.mono_l k
    · intro y0 y1 y2 y3 y4 y5 y6 y7
      unfold past_made.l0
      repeat' first
      | (with_reducible exact ih0 _ _ _ _ _ _ _ _)
      | (with_reducible exact change_Join.mono _ _)
      | (with_reducible exact LeO.refl _)
      | (with_reducible exact LeO.none _)
      | (with_reducible refine LeO.ite ?_ ?_)
      | (with_reducible refine LeO.bind ?_ (fun _ => ?_))
      | exact ih0 _ _ _ _ _ _ _ _
      | exact change_Join.mono _ _
      | exact LeO.none _
      | refine LeO.ite ?_ ?_
      | refine LeO.bind ?_ (fun _ => ?_)
theorem past_made.mono : ∀ a0 a1 a2 a3 a4 a5 k, LeO (past_made.f k a0 a1 a2 a3 a4 a5) (past_made.f (k + 1) a0 a1 a2 a3 a4 a5) := by
  intro a0 a1 a2 a3 a4 a5 k
  have ih0 := past_made.mono_l k
  unfold past_made.f
  repeat' first
      | (with_reducible exact ih0 _ _ _ _ _ _ _ _)
      | (with_reducible exact change_Join.mono _ _)
      | (with_reducible exact LeO.refl _)
      | (with_reducible exact LeO.none _)
      | (with_reducible refine LeO.ite ?_ ?_)
      | (with_reducible refine LeO.bind ?_ (fun _ => ?_))
      | exact ih0 _ _ _ _ _ _ _ _
      | exact change_Join.mono _ _
      | exact LeO.none _
      | refine LeO.ite ?_ ?_
      | refine LeO.bind ?_ (fun _ => ?_)
set_option maxHeartbeats 8000000 in
set_option maxRecDepth 100000 in
theorem past_made.calls (k : Nat) (a0_0 : Int) (a0_1 : Int) (a1_0 : Int) (a1_1 : Int) (A2 : Option Addr) (c2 : Nat) (l2 : List (S35)) (a3 : Int) (r1 : Int) (r2 : Int) (w : World) (hr2 : Kd.C k35 w A2 l2.length l2) (hc2 : l2.length ≤ c2) (h : past_made.f k a0_0 a0_1 a1_0 a1_1 l2 a3 = some (r1, r2)) :
    Calls Try.prog 27 #[.agg #[.int .i64 a0_0, .int .i64 a0_1], .agg #[.int .i64 a1_0, .int .i64 a1_1], .slice A2 l2.length c2, .int .i64 a3] w fun e w' => e = .returned (.agg #[.int .i64 r1, .int .i64 r2]) ∧ Below w.heap.size w w' := by
  have hu24 := Try.underlying24
  have hu35 := Try.underlying35
  have HR2 := zM hr2
  have HC2 := zM hc2
  clear hr2 hc2
  have HB := zM (Below.refl w.heap.size w)
  have H : (past_made.l0 k a3 l2 (l2.length : Int) 0 a1_0 a1_1 a0_0 a0_1) = some (r1, r2) := h
  clear h
  have H' := zM H
  clear H
  go_enter Try.func27, Try.ntmps27
  go_wp2_with (first | ((with_reducible refine gld_ (t := 35) ?_); (try (refine gate_guard (by rfl) ?_; dsimp only)); first | refine wl15_ rfl 35 _ rfl rfl Try.underlying35 rfl (by kernel_rfl) ?_ | refine wlr15_ rfl 35 _ rfl rfl Try.underlying35 rfl (by kernel_rfl) ?_) | ((with_reducible refine gst_ (t := 35) ?_); refine ws15_ rfl 35 _ _ rfl rfl rfl (by kernel_rfl) ?_) | ((with_reducible refine gate_dst (N := 4) rfl ?_); refine box_event ?hg (N := 4) ?hd (cs := #[.int .i64 a0_0, .int .i64 a0_1]) (t := 24) ?hr ?_; (case hd => rfl); (case hg => rfl); (case hr => first | (go_simp; done) | (go_simp; rfl)); intro gb174 hg w5 hbox hb; have BK174 := zM (hbox); have GW174 := zM (bs_ hg); have GE174 := zM (bs_ hg); replace HB := zM (zB bel_ hb); clear hb hbox hg) | ((with_reducible refine gate_dst (N := 5) rfl ?_); refine box_event ?hg (N := 5) ?hd (cs := #[.int .i64 a1_0, .int .i64 a1_1]) (t := 24) ?hr ?_; (case hd => rfl); (case hg => rfl); (case hr => first | (go_simp; done) | (go_simp; rfl)); intro gb175 hg w6 hbox hb; have BK175 := zM (hbox); have GW175 := zM (bs_ hg); have GE175 := zM (bs_ hg); replace HB := zM (zB bel_ hb); have NB174_175 := zM (nl_ BK174 hg); have NB175_174 := zM (ng_ BK174 hg); replace BK174 := zM (bb_ BK174 hb); clear hb hbox hg) | ((with_reducible refine gate_dst (N := 8) rfl ?_); refine box_event ?hg (N := 8) ?hd (cs := #[.int .i64 0, .int .i64 0]) (t := 24) ?hr ?_; (case hd => rfl); (case hg => rfl); (case hr => first | (go_simp; done) | (go_simp; rfl)); intro gb176 hg w7 hbox hb; have BK176 := zM (hbox); have GW176 := zM (bs_ hg); have GE176 := zM (bs_ hg); replace HB := zM (zB bel_ hb); have NB174_176 := zM (nl_ BK174 hg); have NB176_174 := zM (ng_ BK174 hg); replace BK174 := zM (bb_ BK174 hb); have NB175_176 := zM (nl_ BK175 hg); have NB176_175 := zM (ng_ BK175 hg); replace BK175 := zM (bb_ BK175 hb); clear hb hbox hg; have hnb8 := NB174_175.out; have hnc8 := NB175_174.out; have hnb9 := NB174_176.out; have hnc9 := NB176_174.out; have hcz10_0 : w7.cell? ⟨gb174, 0, none⟩ = some (.int .i64 a0_0) := (zL BK174.out 0).trans rfl; have hcz10_1 : w7.cell? ⟨gb174, 1, none⟩ = some (.int .i64 a0_1) := (zL BK174.out 1).trans rfl; have hfz10_0 := zF BK174.out 0; have hfz10_1 := zF BK174.out 1) | ((with_reducible refine gate_dst (N := 9) rfl ?_); refine box_event ?hg (N := 9) ?hd (cs := #[.int .i64 0, .int .i64 0]) (t := 24) ?hr ?_; (case hd => rfl); (case hg => rfl); (case hr => first | (go_simp; done) | (go_simp; rfl)); intro gb177 hg w11 hbox hb; have BK177 := zM (hbox); have GW177 := zM (bs_ hg); have GE177 := zM (bs_ hg); replace HB := zM (zB bel_ hb); have NB174_177 := zM (nl_ BK174 hg); have NB177_174 := zM (ng_ BK174 hg); replace BK174 := zM (bb_ BK174 hb); have NB175_177 := zM (nl_ BK175 hg); have NB177_175 := zM (ng_ BK175 hg); replace BK175 := zM (bb_ BK175 hb); have NB176_177 := zM (nl_ BK176 hg); have NB177_176 := zM (ng_ BK176 hg); replace BK176 := zM (bb_ BK176 hb); clear hb hbox hg; have hnb12 := NB177_174.out; have hnc12 := NB174_177.out; have hnb13 := NB177_175.out; have hnc13 := NB175_177.out; have hnb14 := NB177_176.out; have hnc14 := NB176_177.out; have hcz15_0 : w11.cell? ⟨gb177, 0, none⟩ = some (.int .i64 0) := (zL BK177.out 0).trans rfl; have hcz15_1 : w11.cell? ⟨gb177, 1, none⟩ = some (.int .i64 0) := (zL BK177.out 1).trans rfl; have hfz15_0 := zF BK177.out 0; have hfz15_1 := zF BK177.out 1))
  go_loopg [15] k (fun kq v15 w' => ∃ (x15_1 : Int) (x178000_1 : Int) (x178001_1 : Int), v15 = .int .i64 x15_1 ∧ Aside0 (past_made.l0 kq a3 l2 (l2.length : Int) x15_1 a1_0 a1_1 x178000_1 x178001_1 = some (r1, r2)) ∧ Aside0 (kq ≤ k) ∧ Aside0 (w'.heap[gb174]? = some (.cells #[.int .i64 a0_0, .int .i64 a0_1] 24 (0, 0))) ∧ Aside0 (w'.heap[gb175]? = some (.cells #[.int .i64 a1_0, .int .i64 a1_1] 24 (0, 0))) ∧ Aside0 (w'.heap[gb176]? = some (.cells #[.int .i64 0, .int .i64 0] 24 (0, 0))) ∧ Aside0 (w'.heap[gb177]? = some (.cells #[.int .i64 x178000_1, .int .i64 x178001_1] 24 (0, 0))) ∧ Aside0 (Below w.heap.size w w'))
  case atStart => exact ⟨(0), (a0_0), (a0_1), (by first | rfl | (simp; done) | (simp [*]; done) | (simp; grind)), H', ⟨Nat.le_refl _⟩, ⟨blf_⟩, ⟨blf_⟩, ⟨blf_⟩, ⟨by (with_reducible repeat (first | refine zN ?_ _ | refine zD ?_ | refine zA ?_ _)); refine blk_put (cs := #[.int .i64 a0_0, .int .i64 0]) ?_ 1 _ rfl; (with_reducible repeat (first | refine zN ?_ _ | refine zD ?_ | refine zA ?_ _)); refine blk_put (cs := #[.int .i64 0, .int .i64 0]) ?_ 0 _ rfl; (with_reducible repeat (first | refine zN ?_ _ | refine zD ?_ | refine zA ?_ _)); exact BK177.out⟩, ⟨bel_⟩⟩
  case round =>
   clear H'
   try clear c1
   try clear c2
   try clear p2
   try clear c8
   try clear c9
   try clear c12
   try clear c13
   try clear c14
   try clear hcz10_0
   try clear hcz10_1
   try clear hcz15_0
   try clear hcz15_1
   try clear hfz10_0
   try clear hfz10_1
   try clear hfz15_0
   try clear hfz15_1
   obtain ⟨x15_1, x178000_1, x178001_1, rfl, HA, HK1, BK174, BK175, BK176, BK177, HB⟩ := hrel
   cases gk with
   | zero => exact absurd HA.out (by simp [past_made.l0])
   | succ k1 =>
    have H := HA.out
    clear HA
    simp only [past_made.l0] at H
    by_cases c16 : x15_1 < (l2.length : Int)
    rotate_left
    · rw [if_neg c16] at H
      have c16b0 : decide (x15_1 < (l2.length : Int)) = false := decide_eq_false c16
      clear c16
      simp only [Option.some.injEq, Prod.mk.injEq] at H
      obtain ⟨rfl, rfl⟩ := H
      have hnb67 := NB177_174.out
      have hnc67 := NB174_177.out
      have hnb68 := NB177_175.out
      have hnc68 := NB175_177.out
      have hnb69 := NB177_176.out
      have hnc69 := NB176_177.out
      have hcz70_0 : wr.cell? ⟨gb177, 0, none⟩ = some (.int .i64 x178000_1) := (zL BK177.out 0).trans rfl
      have hcz70_1 : wr.cell? ⟨gb177, 1, none⟩ = some (.int .i64 x178001_1) := (zL BK177.out 1).trans rfl
      have hfz70_0 := zF BK177.out 0
      have hfz70_1 := zF BK177.out 1
      have hnb71 := NB176_174.out
      have hnc71 := NB174_176.out
      have hnb72 := NB176_175.out
      have hnc72 := NB175_176.out
      have hcz73_0 : wr.cell? ⟨gb176, 0, none⟩ = some (.int .i64 0) := (zL BK176.out 0).trans rfl
      have hcz73_1 : wr.cell? ⟨gb176, 1, none⟩ = some (.int .i64 0) := (zL BK176.out 1).trans rfl
      have hfz73_0 := zF BK176.out 0
      have hfz73_1 := zF BK176.out 1
      go_wp2
      refine bodyPost_ret (results_cell_row rfl _ _ gb176 24 #[.int .i64 x178000_1, .int .i64 x178001_1] (0, 0) _ rfl (by (with_reducible repeat (first | refine zN ?_ _ | refine zD ?_ | refine zA ?_ _)); refine blk_put (cs := #[.int .i64 x178000_1, .int .i64 0]) ?_ 1 _ rfl; (with_reducible repeat (first | refine zN ?_ _ | refine zD ?_ | refine zA ?_ _)); refine blk_put (cs := #[.int .i64 0, .int .i64 0]) ?_ 0 _ rfl; (with_reducible repeat (first | refine zN ?_ _ | refine zD ?_ | refine zA ?_ _)); exact BK176.out) Try.underlying24 rfl (by kernel_rfl)) rfl ?_
      exact ⟨by first | rfl | (simp [errW_none, errW_some] <;> rfl) | (simp [*, errW_none, errW_some] <;> rfl), bel_⟩
    rw [if_pos c16] at H
    have c16b0 : decide (x15_1 < (l2.length : Int)) = true := decide_eq_true c16
    clear c16
    by_cases c17 : 0 ≤ x15_1
    rotate_left
    · rw [if_neg c17] at H
      exact absurd H (by simp)
    rw [if_pos c17] at H
    have c17b0 : decide (0 ≤ x15_1) = true := decide_eq_true c17
    clear c17
    by_cases c18 : x15_1 < (l2.length : Int)
    rotate_left
    · rw [if_neg c18] at H
      exact absurd H (by simp)
    rw [if_pos c18] at H
    have c18b0 : decide (x15_1 < (l2.length : Int)) = true := decide_eq_true c18
    clear c18
    by_cases c19 : ((rd_T35 l2 x15_1).f3.f0) = 2
    rotate_left
    · rw [if_neg c19] at H
      have c19b0 : (((rd_T35 l2 x15_1).f3.f0) == 2) = false := beq_eq_false_iff_ne.mpr c19
      have c19b1 : (((rd_T35 l2 x15_1).f3.f0) != 2) = true := bne_iff_ne.mpr c19
      have H' := zM H
      clear H
      have p178 : 0 ≤ (x15_1 : Int) := of_decide_eq_true (by first | (with_reducible assumption) | assumption)
      have q178 : x15_1 < (l2.length : Int) := of_decide_eq_true (by first | (with_reducible assumption) | assumption)
      obtain ⟨ad178, e178, hx178_0, hx178_1, hx178_2, hx178_3, hx178_4, hx178_5, hx178_6, hx178_7, hx178_8, hx178_9, hx178_10, hx178_11, hx178_12, hx178_13, hx178_14⟩ := at_T35 HR2.out x15_1 p178 q178
      cases e178
      replace hx178_0 := (HB.out.cell (World.block_lt_of_cell? w _ hx178_0)).trans hx178_0
      replace hx178_1 := (HB.out.cell (World.block_lt_of_cell? w _ hx178_1)).trans hx178_1
      replace hx178_2 := (HB.out.cell (World.block_lt_of_cell? w _ hx178_2)).trans hx178_2
      replace hx178_3 := (HB.out.cell (World.block_lt_of_cell? w _ hx178_3)).trans hx178_3
      replace hx178_4 := (HB.out.cell (World.block_lt_of_cell? w _ hx178_4)).trans hx178_4
      replace hx178_5 := (HB.out.cell (World.block_lt_of_cell? w _ hx178_5)).trans hx178_5
      replace hx178_6 := (HB.out.cell (World.block_lt_of_cell? w _ hx178_6)).trans hx178_6
      replace hx178_7 := (HB.out.cell (World.block_lt_of_cell? w _ hx178_7)).trans hx178_7
      replace hx178_8 := (HB.out.cell (World.block_lt_of_cell? w _ hx178_8)).trans hx178_8
      replace hx178_9 := (HB.out.cell (World.block_lt_of_cell? w _ hx178_9)).trans hx178_9
      replace hx178_10 := (HB.out.cell (World.block_lt_of_cell? w _ hx178_10)).trans hx178_10
      replace hx178_11 := (HB.out.cell (World.block_lt_of_cell? w _ hx178_11)).trans hx178_11
      replace hx178_12 := (HB.out.cell (World.block_lt_of_cell? w _ hx178_12)).trans hx178_12
      replace hx178_13 := (HB.out.cell (World.block_lt_of_cell? w _ hx178_13)).trans hx178_13
      replace hx178_14 := (HB.out.cell (World.block_lt_of_cell? w _ hx178_14)).trans hx178_14
      replace p178 := eq_true p178
      replace q178 := eq_true q178
      go_wp2_with (first | ((with_reducible refine gld_ (t := 35) ?_); (try (refine gate_guard (by rfl) ?_; dsimp only)); first | refine wl15_ rfl 35 _ rfl rfl Try.underlying35 rfl (by kernel_rfl) ?_ | refine wlr15_ rfl 35 _ rfl rfl Try.underlying35 rfl (by kernel_rfl) ?_) | ((with_reducible refine gst_ (t := 35) ?_); refine ws15_ rfl 35 _ _ rfl rfl rfl (by kernel_rfl) ?_) | ((with_reducible refine gate_dst (N := 11) rfl ?_); refine box_event ?hg (N := 11) ?hd (cs := #[.int .i64 0, .int .i64 0, .int .i64 0, .int .i64 0, .int .i64 0, .float .f64 0, .int .i64 0, .int .i64 0, .int .i64 0, .int .i64 0, .int .i64 0, .int .i64 0, .int .i64 0, .int .i64 0, .float .f64 0]) (t := 35) ?hr ?_; (case hd => rfl); (case hg => rfl); (case hr => first | (go_simp; done) | (go_simp; rfl)); intro gb179 hg w61 hbox hb; have BK179 := zM (hbox); have GW179 := zM (bs_ hg); have GE179 := zM (bs_ hg); replace HB := zM (zB bel_ hb); have NB174_179 := zM (nl_ BK174 hg); have NB179_174 := zM (ng_ BK174 hg); replace BK174 := zM (bb_ BK174 hb); have NB175_179 := zM (nl_ BK175 hg); have NB179_175 := zM (ng_ BK175 hg); replace BK175 := zM (bb_ BK175 hb); have NB176_179 := zM (nl_ BK176 hg); have NB179_176 := zM (ng_ BK176 hg); replace BK176 := zM (bb_ BK176 hb); have NB177_179 := zM (nl_ BK177 hg); have NB179_177 := zM (ng_ BK177 hg); replace BK177 := zM (bb_ BK177 hb); clear hb hbox hg; have hnb62 := NB179_174.out; have hnc62 := NB174_179.out; have hnb63 := NB179_175.out; have hnc63 := NB175_179.out; have hnb64 := NB179_176.out; have hnc64 := NB176_179.out; have hnb65 := NB179_177.out; have hnc65 := NB177_179.out; obtain ⟨hcz66_0, hcz66_1, hcz66_2, hcz66_3, hcz66_4, hcz66_5, hcz66_6, hcz66_7, hcz66_8, hcz66_9, hcz66_10, hcz66_11, hcz66_12, hcz66_13, hcz66_14⟩ := r15_ BK179.out; obtain ⟨hfz66_0, hfz66_1, hfz66_2, hfz66_3, hfz66_4, hfz66_5, hfz66_6, hfz66_7, hfz66_8, hfz66_9, hfz66_10, hfz66_11, hfz66_12, hfz66_13, hfz66_14⟩ := f15_ BK179.out))
      go_roundg k1
      case measure => have := HK1.out; omega
      case rel => exact ⟨(wrap64 (x15_1 + 1)), (x178000_1), (x178001_1), (by first | rfl | (simp; done) | (simp [*]; done) | (simp; grind)), H', ⟨by have := HK1.out; omega⟩, ⟨blf_⟩, ⟨blf_⟩, ⟨blf_⟩, ⟨blf_⟩, ⟨bel_⟩⟩
    rw [if_pos c19] at H
    have c19b0 : (((rd_T35 l2 x15_1).f3.f0) == 2) = true := beq_iff_eq.mpr c19
    have c19b1 : (((rd_T35 l2 x15_1).f3.f0) != 2) = false := bne_eq_false_iff_eq.mpr c19
    clear c19
    by_cases c20 : ((rd_T35 l2 x15_1).f1) ≤ a3
    rotate_left
    · rw [if_neg c20] at H
      have c20b0 : decide (((rd_T35 l2 x15_1).f1) ≤ a3) = false := decide_eq_false c20
      clear c20
      have H' := zM H
      clear H
      have p178 : 0 ≤ (x15_1 : Int) := of_decide_eq_true (by first | (with_reducible assumption) | assumption)
      have q178 : x15_1 < (l2.length : Int) := of_decide_eq_true (by first | (with_reducible assumption) | assumption)
      obtain ⟨ad178, e178, hx178_0, hx178_1, hx178_2, hx178_3, hx178_4, hx178_5, hx178_6, hx178_7, hx178_8, hx178_9, hx178_10, hx178_11, hx178_12, hx178_13, hx178_14⟩ := at_T35 HR2.out x15_1 p178 q178
      cases e178
      replace hx178_0 := (HB.out.cell (World.block_lt_of_cell? w _ hx178_0)).trans hx178_0
      replace hx178_1 := (HB.out.cell (World.block_lt_of_cell? w _ hx178_1)).trans hx178_1
      replace hx178_2 := (HB.out.cell (World.block_lt_of_cell? w _ hx178_2)).trans hx178_2
      replace hx178_3 := (HB.out.cell (World.block_lt_of_cell? w _ hx178_3)).trans hx178_3
      replace hx178_4 := (HB.out.cell (World.block_lt_of_cell? w _ hx178_4)).trans hx178_4
      replace hx178_5 := (HB.out.cell (World.block_lt_of_cell? w _ hx178_5)).trans hx178_5
      replace hx178_6 := (HB.out.cell (World.block_lt_of_cell? w _ hx178_6)).trans hx178_6
      replace hx178_7 := (HB.out.cell (World.block_lt_of_cell? w _ hx178_7)).trans hx178_7
      replace hx178_8 := (HB.out.cell (World.block_lt_of_cell? w _ hx178_8)).trans hx178_8
      replace hx178_9 := (HB.out.cell (World.block_lt_of_cell? w _ hx178_9)).trans hx178_9
      replace hx178_10 := (HB.out.cell (World.block_lt_of_cell? w _ hx178_10)).trans hx178_10
      replace hx178_11 := (HB.out.cell (World.block_lt_of_cell? w _ hx178_11)).trans hx178_11
      replace hx178_12 := (HB.out.cell (World.block_lt_of_cell? w _ hx178_12)).trans hx178_12
      replace hx178_13 := (HB.out.cell (World.block_lt_of_cell? w _ hx178_13)).trans hx178_13
      replace hx178_14 := (HB.out.cell (World.block_lt_of_cell? w _ hx178_14)).trans hx178_14
      replace p178 := eq_true p178
      replace q178 := eq_true q178
      go_wp2_with (first | ((with_reducible refine gld_ (t := 35) ?_); (try (refine gate_guard (by rfl) ?_; dsimp only)); first | refine wl15_ rfl 35 _ rfl rfl Try.underlying35 rfl (by kernel_rfl) ?_ | refine wlr15_ rfl 35 _ rfl rfl Try.underlying35 rfl (by kernel_rfl) ?_) | ((with_reducible refine gst_ (t := 35) ?_); refine ws15_ rfl 35 _ _ rfl rfl rfl (by kernel_rfl) ?_) | ((with_reducible refine gate_dst (N := 11) rfl ?_); refine box_event ?hg (N := 11) ?hd (cs := #[.int .i64 0, .int .i64 0, .int .i64 0, .int .i64 0, .int .i64 0, .float .f64 0, .int .i64 0, .int .i64 0, .int .i64 0, .int .i64 0, .int .i64 0, .int .i64 0, .int .i64 0, .int .i64 0, .float .f64 0]) (t := 35) ?hr ?_; (case hd => rfl); (case hg => rfl); (case hr => first | (go_simp; done) | (go_simp; rfl)); intro gb179 hg w55 hbox hb; have BK179 := zM (hbox); have GW179 := zM (bs_ hg); have GE179 := zM (bs_ hg); replace HB := zM (zB bel_ hb); have NB174_179 := zM (nl_ BK174 hg); have NB179_174 := zM (ng_ BK174 hg); replace BK174 := zM (bb_ BK174 hb); have NB175_179 := zM (nl_ BK175 hg); have NB179_175 := zM (ng_ BK175 hg); replace BK175 := zM (bb_ BK175 hb); have NB176_179 := zM (nl_ BK176 hg); have NB179_176 := zM (ng_ BK176 hg); replace BK176 := zM (bb_ BK176 hb); have NB177_179 := zM (nl_ BK177 hg); have NB179_177 := zM (ng_ BK177 hg); replace BK177 := zM (bb_ BK177 hb); clear hb hbox hg; have hnb56 := NB179_174.out; have hnc56 := NB174_179.out; have hnb57 := NB179_175.out; have hnc57 := NB175_179.out; have hnb58 := NB179_176.out; have hnc58 := NB176_179.out; have hnb59 := NB179_177.out; have hnc59 := NB177_179.out; obtain ⟨hcz60_0, hcz60_1, hcz60_2, hcz60_3, hcz60_4, hcz60_5, hcz60_6, hcz60_7, hcz60_8, hcz60_9, hcz60_10, hcz60_11, hcz60_12, hcz60_13, hcz60_14⟩ := r15_ BK179.out; obtain ⟨hfz60_0, hfz60_1, hfz60_2, hfz60_3, hfz60_4, hfz60_5, hfz60_6, hfz60_7, hfz60_8, hfz60_9, hfz60_10, hfz60_11, hfz60_12, hfz60_13, hfz60_14⟩ := f15_ BK179.out))
      go_roundg k1
      case measure => have := HK1.out; omega
      case rel => exact ⟨(wrap64 (x15_1 + 1)), (x178000_1), (x178001_1), (by first | rfl | (simp; done) | (simp [*]; done) | (simp; grind)), H', ⟨by have := HK1.out; omega⟩, ⟨blf_⟩, ⟨blf_⟩, ⟨blf_⟩, ⟨blf_⟩, ⟨bel_⟩⟩
    rw [if_pos c20] at H
    have c20b0 : decide (((rd_T35 l2 x15_1).f1) ≤ a3) = true := decide_eq_true c20
    clear c20
    replace H := Option.bind_eq_some_iff.mp H
    obtain ⟨t180, A210, H⟩ := H
    replace H : (if t180 = true then ((change_Join.f k1 (([(⟨x178000_1, x178001_1⟩ : S24), (⟨(rd_T35 l2 x15_1).f3.f3.f0, (rd_T35 l2 x15_1).f3.f3.f1⟩ : S24)] : List (S24)))).bind fun bt184 => (past_made.l0 k1 a3 l2 (l2.length : Int) (wrap64 (x15_1 + 1)) a1_0 a1_1 bt184.1 bt184.2)) else (past_made.l0 k1 a3 l2 (l2.length : Int) (wrap64 (x15_1 + 1)) a1_0 a1_1 x178000_1 x178001_1)) = some (r1, r2) := H
    have A21 := zM A210
    clear A210
    by_cases c22 : t180 = true
    rotate_left
    · replace c22 := Bool.eq_false_iff.mpr c22
      subst c22
      have H1 : (past_made.l0 k1 a3 l2 (l2.length : Int) (wrap64 (x15_1 + 1)) a1_0 a1_1 x178000_1 x178001_1) = some (r1, r2) := by rw [if_neg (show ¬ (false = true) by decide)] at H; exact H
      clear H
      have H := H1
      clear H1
      have H' := zM H
      clear H
      have p178 : 0 ≤ (x15_1 : Int) := of_decide_eq_true (by first | (with_reducible assumption) | assumption)
      have q178 : x15_1 < (l2.length : Int) := of_decide_eq_true (by first | (with_reducible assumption) | assumption)
      obtain ⟨ad178, e178, hx178_0, hx178_1, hx178_2, hx178_3, hx178_4, hx178_5, hx178_6, hx178_7, hx178_8, hx178_9, hx178_10, hx178_11, hx178_12, hx178_13, hx178_14⟩ := at_T35 HR2.out x15_1 p178 q178
      cases e178
      replace hx178_0 := (HB.out.cell (World.block_lt_of_cell? w _ hx178_0)).trans hx178_0
      replace hx178_1 := (HB.out.cell (World.block_lt_of_cell? w _ hx178_1)).trans hx178_1
      replace hx178_2 := (HB.out.cell (World.block_lt_of_cell? w _ hx178_2)).trans hx178_2
      replace hx178_3 := (HB.out.cell (World.block_lt_of_cell? w _ hx178_3)).trans hx178_3
      replace hx178_4 := (HB.out.cell (World.block_lt_of_cell? w _ hx178_4)).trans hx178_4
      replace hx178_5 := (HB.out.cell (World.block_lt_of_cell? w _ hx178_5)).trans hx178_5
      replace hx178_6 := (HB.out.cell (World.block_lt_of_cell? w _ hx178_6)).trans hx178_6
      replace hx178_7 := (HB.out.cell (World.block_lt_of_cell? w _ hx178_7)).trans hx178_7
      replace hx178_8 := (HB.out.cell (World.block_lt_of_cell? w _ hx178_8)).trans hx178_8
      replace hx178_9 := (HB.out.cell (World.block_lt_of_cell? w _ hx178_9)).trans hx178_9
      replace hx178_10 := (HB.out.cell (World.block_lt_of_cell? w _ hx178_10)).trans hx178_10
      replace hx178_11 := (HB.out.cell (World.block_lt_of_cell? w _ hx178_11)).trans hx178_11
      replace hx178_12 := (HB.out.cell (World.block_lt_of_cell? w _ hx178_12)).trans hx178_12
      replace hx178_13 := (HB.out.cell (World.block_lt_of_cell? w _ hx178_13)).trans hx178_13
      replace hx178_14 := (HB.out.cell (World.block_lt_of_cell? w _ hx178_14)).trans hx178_14
      replace p178 := eq_true p178
      replace q178 := eq_true q178
      go_wp2_with (first | ((with_reducible refine gld_ (t := 35) ?_); (try (refine gate_guard (by rfl) ?_; dsimp only)); first | refine wl15_ rfl 35 _ rfl rfl Try.underlying35 rfl (by kernel_rfl) ?_ | refine wlr15_ rfl 35 _ rfl rfl Try.underlying35 rfl (by kernel_rfl) ?_) | ((with_reducible refine gst_ (t := 35) ?_); refine ws15_ rfl 35 _ _ rfl rfl rfl (by kernel_rfl) ?_) | ((with_reducible refine gate_dst (N := 11) rfl ?_); refine box_event ?hg (N := 11) ?hd (cs := #[.int .i64 0, .int .i64 0, .int .i64 0, .int .i64 0, .int .i64 0, .float .f64 0, .int .i64 0, .int .i64 0, .int .i64 0, .int .i64 0, .int .i64 0, .int .i64 0, .int .i64 0, .int .i64 0, .float .f64 0]) (t := 35) ?hr ?_; (case hd => rfl); (case hg => rfl); (case hr => first | (go_simp; done) | (go_simp; rfl)); intro gb179 hg w44 hbox hb; have BK179 := zM (hbox); have GW179 := zM (bs_ hg); have GE179 := zM (bs_ hg); replace HB := zM (zB bel_ hb); have NB174_179 := zM (nl_ BK174 hg); have NB179_174 := zM (ng_ BK174 hg); replace BK174 := zM (bb_ BK174 hb); have NB175_179 := zM (nl_ BK175 hg); have NB179_175 := zM (ng_ BK175 hg); replace BK175 := zM (bb_ BK175 hb); have NB176_179 := zM (nl_ BK176 hg); have NB179_176 := zM (ng_ BK176 hg); replace BK176 := zM (bb_ BK176 hb); have NB177_179 := zM (nl_ BK177 hg); have NB179_177 := zM (ng_ BK177 hg); replace BK177 := zM (bb_ BK177 hb); clear hb hbox hg; have hnb45 := NB179_174.out; have hnc45 := NB174_179.out; have hnb46 := NB179_175.out; have hnc46 := NB175_179.out; have hnb47 := NB179_176.out; have hnc47 := NB176_179.out; have hnb48 := NB179_177.out; have hnc48 := NB177_179.out; obtain ⟨hcz49_0, hcz49_1, hcz49_2, hcz49_3, hcz49_4, hcz49_5, hcz49_6, hcz49_7, hcz49_8, hcz49_9, hcz49_10, hcz49_11, hcz49_12, hcz49_13, hcz49_14⟩ := r15_ BK179.out; obtain ⟨hfz49_0, hfz49_1, hfz49_2, hfz49_3, hfz49_4, hfz49_5, hfz49_6, hfz49_7, hfz49_8, hfz49_9, hfz49_10, hfz49_11, hfz49_12, hfz49_13, hfz49_14⟩ := f15_ BK179.out; have hnb50 := NB175_174.out; have hnc50 := NB174_175.out; have hnb51 := NB175_176.out; have hnc51 := NB176_175.out; have hnb52 := NB175_177.out; have hnc52 := NB177_175.out; have hcz53_0 : w44.cell? ⟨gb175, 0, none⟩ = some (.int .i64 a1_0) := (zL BK175.out 0).trans rfl; have hcz53_1 : w44.cell? ⟨gb175, 1, none⟩ = some (.int .i64 a1_1) := (zL BK175.out 1).trans rfl; have hfz53_0 := zF BK175.out 0; have hfz53_1 := zF BK175.out 1) | (go_at_call 28; (with_reducible refine (change_Within.calls ((rd_T35 l2 x15_1).f3.f3.f0) ((rd_T35 l2 x15_1).f3.f3.f1) a1_0 a1_1 false _ A21.out).mono ?_); rintro e w54 ⟨rfl, hb⟩; have n0_ := zM (blk_below (g := gb174) (o := .cells #[.int .i64 a0_0, .int .i64 a0_1] 24 (0, 0)) blf_ hb); have n1_ := zM (blk_below (g := gb175) (o := .cells #[.int .i64 a1_0, .int .i64 a1_1] 24 (0, 0)) blf_ hb); have n2_ := zM (blk_below (g := gb176) (o := .cells #[.int .i64 0, .int .i64 0] 24 (0, 0)) blf_ hb); have n3_ := zM (blk_below (g := gb177) (o := .cells #[.int .i64 x178000_1, .int .i64 x178001_1] 24 (0, 0)) blf_ hb); have n4_ := zM (blk_below (g := gb179) (o := .cells (e35_ (rd_T35 l2 x15_1)) 35 (0, 0)) (by (with_reducible repeat (first | refine zN ?_ _ | refine zD ?_ | refine zA ?_ _)); exact fx15_ BK179) hb); have n5_ := zM (zB bel_ hb); clear BK174; clear BK175; clear BK176; clear BK177; clear BK179; clear HB; have BK174 := n0_; have BK175 := n1_; have BK176 := n2_; have BK177 := n3_; have BK179 := n4_; have HB := n5_; clear n0_ n1_ n2_ n3_ n4_ n5_; (try clear hb); (try clear hb2); (try clear hk); (try clear hi)))
      go_roundg k1
      case measure => have := HK1.out; omega
      case rel => exact ⟨(wrap64 (x15_1 + 1)), (x178000_1), (x178001_1), (by first | rfl | (simp; done) | (simp [*]; done) | (simp; grind)), H', ⟨by have := HK1.out; omega⟩, ⟨blf_⟩, ⟨blf_⟩, ⟨blf_⟩, ⟨blf_⟩, ⟨bel_⟩⟩
    subst c22
    have H1 : ((change_Join.f k1 (([(⟨x178000_1, x178001_1⟩ : S24), (⟨(rd_T35 l2 x15_1).f3.f3.f0, (rd_T35 l2 x15_1).f3.f3.f1⟩ : S24)] : List (S24)))).bind fun bt184 => (past_made.l0 k1 a3 l2 (l2.length : Int) (wrap64 (x15_1 + 1)) a1_0 a1_1 bt184.1 bt184.2)) = some (r1, r2) := by rw [if_pos rfl] at H; exact H
    clear H
    have H := H1
    clear H1
    obtain ⟨y181, hy181⟩ : ∃ y_ : List (S24), y_ = (([(⟨x178000_1, x178001_1⟩ : S24), (⟨(rd_T35 l2 x15_1).f3.f3.f0, (rd_T35 l2 x15_1).f3.f3.f1⟩ : S24)] : List (S24))) := ⟨_, rfl⟩
    replace H : ((change_Join.f k1 y181).bind fun bt184 => (past_made.l0 k1 a3 l2 (l2.length : Int) (wrap64 (x15_1 + 1)) a1_0 a1_1 bt184.1 bt184.2)) = some (r1, r2) := by first | (rw [hy181]; with_reducible exact H) | (have H2_ := (Option.bind_some _ _).symm.trans H; rw [hy181]; with_reducible exact H2_) | (have H2_ := (Option.bind_some _ _).symm.trans H; with_reducible exact H2_) | with_reducible exact H | (rw [hy181]; exact H) | exact H
    have Ny181 := zM hy181
    clear hy181
    replace H := Option.bind_eq_some_iff.mp H
    obtain ⟨⟨t184, t185⟩, A230, H⟩ := H
    replace H : (past_made.l0 k1 a3 l2 (l2.length : Int) (wrap64 (x15_1 + 1)) a1_0 a1_1 t184 t185) = some (r1, r2) := H
    have A23 := zM A230
    clear A230
    have H' := zM H
    clear H
    have p178 : 0 ≤ (x15_1 : Int) := of_decide_eq_true (by first | (with_reducible assumption) | assumption)
    have q178 : x15_1 < (l2.length : Int) := of_decide_eq_true (by first | (with_reducible assumption) | assumption)
    obtain ⟨ad178, e178, hx178_0, hx178_1, hx178_2, hx178_3, hx178_4, hx178_5, hx178_6, hx178_7, hx178_8, hx178_9, hx178_10, hx178_11, hx178_12, hx178_13, hx178_14⟩ := at_T35 HR2.out x15_1 p178 q178
    cases e178
    replace hx178_0 := (HB.out.cell (World.block_lt_of_cell? w _ hx178_0)).trans hx178_0
    replace hx178_1 := (HB.out.cell (World.block_lt_of_cell? w _ hx178_1)).trans hx178_1
    replace hx178_2 := (HB.out.cell (World.block_lt_of_cell? w _ hx178_2)).trans hx178_2
    replace hx178_3 := (HB.out.cell (World.block_lt_of_cell? w _ hx178_3)).trans hx178_3
    replace hx178_4 := (HB.out.cell (World.block_lt_of_cell? w _ hx178_4)).trans hx178_4
    replace hx178_5 := (HB.out.cell (World.block_lt_of_cell? w _ hx178_5)).trans hx178_5
    replace hx178_6 := (HB.out.cell (World.block_lt_of_cell? w _ hx178_6)).trans hx178_6
    replace hx178_7 := (HB.out.cell (World.block_lt_of_cell? w _ hx178_7)).trans hx178_7
    replace hx178_8 := (HB.out.cell (World.block_lt_of_cell? w _ hx178_8)).trans hx178_8
    replace hx178_9 := (HB.out.cell (World.block_lt_of_cell? w _ hx178_9)).trans hx178_9
    replace hx178_10 := (HB.out.cell (World.block_lt_of_cell? w _ hx178_10)).trans hx178_10
    replace hx178_11 := (HB.out.cell (World.block_lt_of_cell? w _ hx178_11)).trans hx178_11
    replace hx178_12 := (HB.out.cell (World.block_lt_of_cell? w _ hx178_12)).trans hx178_12
    replace hx178_13 := (HB.out.cell (World.block_lt_of_cell? w _ hx178_13)).trans hx178_13
    replace hx178_14 := (HB.out.cell (World.block_lt_of_cell? w _ hx178_14)).trans hx178_14
    replace p178 := eq_true p178
    replace q178 := eq_true q178
    go_wp2_with (first | ((with_reducible refine gld_ (t := 35) ?_); (try (refine gate_guard (by rfl) ?_; dsimp only)); first | refine wl15_ rfl 35 _ rfl rfl Try.underlying35 rfl (by kernel_rfl) ?_ | refine wlr15_ rfl 35 _ rfl rfl Try.underlying35 rfl (by kernel_rfl) ?_) | ((with_reducible refine gst_ (t := 35) ?_); refine ws15_ rfl 35 _ _ rfl rfl rfl (by kernel_rfl) ?_) | ((with_reducible refine gate_dst (N := 11) rfl ?_); refine box_event ?hg (N := 11) ?hd (cs := #[.int .i64 0, .int .i64 0, .int .i64 0, .int .i64 0, .int .i64 0, .float .f64 0, .int .i64 0, .int .i64 0, .int .i64 0, .int .i64 0, .int .i64 0, .int .i64 0, .int .i64 0, .int .i64 0, .float .f64 0]) (t := 35) ?hr ?_; (case hd => rfl); (case hg => rfl); (case hr => first | (go_simp; done) | (go_simp; rfl)); intro gb179 hg w24 hbox hb; have BK179 := zM (hbox); have GW179 := zM (bs_ hg); have GE179 := zM (bs_ hg); replace HB := zM (zB bel_ hb); have NB174_179 := zM (nl_ BK174 hg); have NB179_174 := zM (ng_ BK174 hg); replace BK174 := zM (bb_ BK174 hb); have NB175_179 := zM (nl_ BK175 hg); have NB179_175 := zM (ng_ BK175 hg); replace BK175 := zM (bb_ BK175 hb); have NB176_179 := zM (nl_ BK176 hg); have NB179_176 := zM (ng_ BK176 hg); replace BK176 := zM (bb_ BK176 hb); have NB177_179 := zM (nl_ BK177 hg); have NB179_177 := zM (ng_ BK177 hg); replace BK177 := zM (bb_ BK177 hb); clear hb hbox hg; have hnb25 := NB179_174.out; have hnc25 := NB174_179.out; have hnb26 := NB179_175.out; have hnc26 := NB175_179.out; have hnb27 := NB179_176.out; have hnc27 := NB176_179.out; have hnb28 := NB179_177.out; have hnc28 := NB177_179.out; obtain ⟨hcz29_0, hcz29_1, hcz29_2, hcz29_3, hcz29_4, hcz29_5, hcz29_6, hcz29_7, hcz29_8, hcz29_9, hcz29_10, hcz29_11, hcz29_12, hcz29_13, hcz29_14⟩ := r15_ BK179.out; obtain ⟨hfz29_0, hfz29_1, hfz29_2, hfz29_3, hfz29_4, hfz29_5, hfz29_6, hfz29_7, hfz29_8, hfz29_9, hfz29_10, hfz29_11, hfz29_12, hfz29_13, hfz29_14⟩ := f15_ BK179.out; have hnb30 := NB175_174.out; have hnc30 := NB174_175.out; have hnb31 := NB175_176.out; have hnc31 := NB176_175.out; have hnb32 := NB175_177.out; have hnc32 := NB177_175.out; have hcz33_0 : w24.cell? ⟨gb175, 0, none⟩ = some (.int .i64 a1_0) := (zL BK175.out 0).trans rfl; have hcz33_1 : w24.cell? ⟨gb175, 1, none⟩ = some (.int .i64 a1_1) := (zL BK175.out 1).trans rfl; have hfz33_0 := zF BK175.out 0; have hfz33_1 := zF BK175.out 1) | (go_at_call 28; (with_reducible refine (change_Within.calls ((rd_T35 l2 x15_1).f3.f3.f0) ((rd_T35 l2 x15_1).f3.f3.f1) a1_0 a1_1 true _ A21.out).mono ?_); rintro e w34 ⟨rfl, hb⟩; have n0_ := zM (blk_below (g := gb174) (o := .cells #[.int .i64 a0_0, .int .i64 a0_1] 24 (0, 0)) blf_ hb); have n1_ := zM (blk_below (g := gb175) (o := .cells #[.int .i64 a1_0, .int .i64 a1_1] 24 (0, 0)) blf_ hb); have n2_ := zM (blk_below (g := gb176) (o := .cells #[.int .i64 0, .int .i64 0] 24 (0, 0)) blf_ hb); have n3_ := zM (blk_below (g := gb177) (o := .cells #[.int .i64 x178000_1, .int .i64 x178001_1] 24 (0, 0)) blf_ hb); have n4_ := zM (blk_below (g := gb179) (o := .cells (e35_ (rd_T35 l2 x15_1)) 35 (0, 0)) (by (with_reducible repeat (first | refine zN ?_ _ | refine zD ?_ | refine zA ?_ _)); exact fx15_ BK179) hb); have n5_ := zM (zB bel_ hb); clear BK174; clear BK175; clear BK176; clear BK177; clear BK179; clear HB; have BK174 := n0_; have BK175 := n1_; have BK176 := n2_; have BK177 := n3_; have BK179 := n4_; have HB := n5_; clear n0_ n1_ n2_ n3_ n4_ n5_; (try clear hb); (try clear hb2); (try clear hk); (try clear hi); have hnb35 := NB177_174.out; have hnc35 := NB174_177.out; have hnb36 := NB177_176.out; have hnc36 := NB176_177.out; have hcz37_0 : w34.cell? ⟨gb177, 0, none⟩ = some (.int .i64 x178000_1) := (zL BK177.out 0).trans rfl; have hcz37_1 : w34.cell? ⟨gb177, 1, none⟩ = some (.int .i64 x178001_1) := (zL BK177.out 1).trans rfl; have hfz37_0 := zF BK177.out 0; have hfz37_1 := zF BK177.out 1; obtain ⟨hcz38_0, hcz38_1, hcz38_2, hcz38_3, hcz38_4, hcz38_5, hcz38_6, hcz38_7, hcz38_8, hcz38_9, hcz38_10, hcz38_11, hcz38_12, hcz38_13, hcz38_14⟩ := r15_ BK179.out; obtain ⟨hfz38_0, hfz38_1, hfz38_2, hfz38_3, hfz38_4, hfz38_5, hfz38_6, hfz38_7, hfz38_8, hfz38_9, hfz38_10, hfz38_11, hfz38_12, hfz38_13, hfz38_14⟩ := f15_ BK179.out) | ((with_reducible refine gate_dst (N := 40) rfl ?_); refine Kd.R_lit k24 _ 24 ?hg (N := 40) ?hd (xs := ([(⟨x178000_1, x178001_1⟩ : S24), (⟨(rd_T35 l2 x15_1).f3.f3.f0, (rd_T35 l2 x15_1).f3.f3.f1⟩ : S24)] : List (S24))) (inner := [.int .i64 x178000_1, .int .i64 x178001_1, .int .i64 ((rd_T35 l2 x15_1).f3.f3.f0), .int .i64 ((rd_T35 l2 x15_1).f3.f3.f1)]) (ok := fun _ => True) (okp := fun _ => True) ?hr ?hp (fun _ hk => hk) trivial (Below.refl _ _) (Nat.le_refl _) (by simp) ?_; (case hd => rfl); (case hg => rfl); (case hr => first | (go_simp; done) | (go_simp; rfl)); (case hp => exact (Reps.c2 (show Kd.M k24 _ _ _ (⟨x178000_1, x178001_1⟩ : S24) [.int .i64 x178000_1, .int .i64 x178001_1] from (k24_mkM _ _ _ (⟨x178000_1, x178001_1⟩ : S24) )) (Reps.c2 (show Kd.M k24 _ _ _ (⟨(rd_T35 l2 x15_1).f3.f3.f0, (rd_T35 l2 x15_1).f3.f3.f1⟩ : S24) [.int .i64 ((rd_T35 l2 x15_1).f3.f3.f0), .int .i64 ((rd_T35 l2 x15_1).f3.f3.f1)] from (k24_mkM _ _ _ (⟨(rd_T35 l2 x15_1).f3.f3.f0, (rd_T35 l2 x15_1).f3.f3.f1⟩ : S24) )) (Reps.none _ _)))); intro v182 w39 ho40 hb hg_ hnew_; clear hg_ hnew_; (first | rw [← Ny181.out] at ho40 | (simp only [Int.reduceToNat] at ho40; rw [← Ny181.out] at ho40)); have HO183 := zM (Kd.R_lower (Kd.R_newB (Kd.R_newB (Kd.R_newB (Kd.R_newB ho40 (g := gb174) (o := .cells #[.int .i64 a0_0, .int .i64 a0_1] 24 (0, 0)) blk_) (g := gb175) (o := .cells #[.int .i64 a1_0, .int .i64 a1_1] 24 (0, 0)) blk_) (g := gb176) (o := .cells #[.int .i64 0, .int .i64 0] 24 (0, 0)) blk_) (g := gb177) (o := .cells #[.int .i64 x178000_1, .int .i64 x178001_1] 24 (0, 0)) blk_) (below_size bel_)); replace BK174 := zM (bb_ BK174 hb); replace BK175 := zM (bb_ BK175 hb); replace BK176 := zM (bb_ BK176 hb); replace BK177 := zM (bb_ BK177 hb); replace BK179 := zM (bb_ BK179 hb); replace HB := zM (zB bel_ hb); clear hb ho40; obtain ⟨Ao41, co41, eo41⟩ := Kd.R_slice HO183.out; subst eo41) | ((with_reducible refine gate_callee (f := 44) rfl ?_); refine goL_ (some 41) Try.func44 #[.slice Ao41 y181.length co41] ?_; (with_reducible refine (change_Join.calls k1 _ _ y181 t184 t185 _ ?side1 ?side2 A23.out).mono ?_); (case side1 => repeat (first | exact (Kd.R_reads' HO183.out).2.2 | (with_reducible refine Kd.C_alloc ?_ _) | (with_reducible refine Kd.C_drewN ?_ _) | (with_reducible refine Kd.C_drew ?_))); (case side2 => exact (Kd.R_reads' HO183.out).2.1); rintro e w42 ⟨rfl, hb⟩; refine ⟨_, rfl, ?_⟩; replace HO183 := zM (Kd.R_below (rl_ HO183) hb); replace BK174 := zM (bb_ BK174 hb); replace BK175 := zM (bb_ BK175 hb); replace BK176 := zM (bb_ BK176 hb); replace BK177 := zM (bb_ BK177 hb); replace BK179 := zM (bb_ BK179 hb); replace HB := zM (zB bel_ hb); (try clear hb); (try clear hb2); (try clear hk); (try clear hi); have hcz43_0 : w42.cell? ⟨gb177, 0, none⟩ = some (.int .i64 x178000_1) := (zL BK177.out 0).trans rfl; have hcz43_1 : w42.cell? ⟨gb177, 1, none⟩ = some (.int .i64 x178001_1) := (zL BK177.out 1).trans rfl; have hfz43_0 := zF BK177.out 0; have hfz43_1 := zF BK177.out 1))
    go_roundg k1
    case measure => have := HK1.out; omega
    case rel => exact ⟨(wrap64 (x15_1 + 1)), (t184), (t185), (by first | rfl | (simp; done) | (simp [*]; done) | (simp; grind)), H', ⟨by have := HK1.out; omega⟩, ⟨blf_⟩, ⟨blf_⟩, ⟨blf_⟩, ⟨by (with_reducible repeat (first | refine zN ?_ _ | refine zD ?_ | refine zA ?_ _)); refine blk_put (cs := #[.int .i64 t184, .int .i64 x178001_1]) ?_ 1 _ rfl; (with_reducible repeat (first | refine zN ?_ _ | refine zD ?_ | refine zA ?_ _)); refine blk_put (cs := #[.int .i64 x178000_1, .int .i64 x178001_1]) ?_ 0 _ rfl; (with_reducible repeat (first | refine zN ?_ _ | refine zD ?_ | refine zA ?_ _)); exact BK177.out⟩, ⟨bel_⟩⟩
/-! ### bits_OnesCount64: function 78 -/
def bits_OnesCount64.f (a0 : Int) : Option (Int) := some (Go.bits .and .i64 (wrap64 (IntKind.u64.wrap ((IntKind.u64.wrap ((IntKind.u64.wrap ((Go.bits .and .u64 (IntKind.u64.wrap (((IntKind.u64.wrap ((Go.bits .and .u64 ((IntKind.u64.wrap ((Go.bits .and .u64 (a0 / 2) 6148914691236517205) + (Go.bits .and .u64 a0 6148914691236517205))) / 4) 3689348814741910323) + (Go.bits .and .u64 (IntKind.u64.wrap ((Go.bits .and .u64 (a0 / 2) 6148914691236517205) + (Go.bits .and .u64 a0 6148914691236517205))) 3689348814741910323))) / 16) + (IntKind.u64.wrap ((Go.bits .and .u64 ((IntKind.u64.wrap ((Go.bits .and .u64 (a0 / 2) 6148914691236517205) + (Go.bits .and .u64 a0 6148914691236517205))) / 4) 3689348814741910323) + (Go.bits .and .u64 (IntKind.u64.wrap ((Go.bits .and .u64 (a0 / 2) 6148914691236517205) + (Go.bits .and .u64 a0 6148914691236517205))) 3689348814741910323))))) 1085102592571150095) + ((Go.bits .and .u64 (IntKind.u64.wrap (((IntKind.u64.wrap ((Go.bits .and .u64 ((IntKind.u64.wrap ((Go.bits .and .u64 (a0 / 2) 6148914691236517205) + (Go.bits .and .u64 a0 6148914691236517205))) / 4) 3689348814741910323) + (Go.bits .and .u64 (IntKind.u64.wrap ((Go.bits .and .u64 (a0 / 2) 6148914691236517205) + (Go.bits .and .u64 a0 6148914691236517205))) 3689348814741910323))) / 16) + (IntKind.u64.wrap ((Go.bits .and .u64 ((IntKind.u64.wrap ((Go.bits .and .u64 (a0 / 2) 6148914691236517205) + (Go.bits .and .u64 a0 6148914691236517205))) / 4) 3689348814741910323) + (Go.bits .and .u64 (IntKind.u64.wrap ((Go.bits .and .u64 (a0 / 2) 6148914691236517205) + (Go.bits .and .u64 a0 6148914691236517205))) 3689348814741910323))))) 1085102592571150095) / 256))) + ((IntKind.u64.wrap ((Go.bits .and .u64 (IntKind.u64.wrap (((IntKind.u64.wrap ((Go.bits .and .u64 ((IntKind.u64.wrap ((Go.bits .and .u64 (a0 / 2) 6148914691236517205) + (Go.bits .and .u64 a0 6148914691236517205))) / 4) 3689348814741910323) + (Go.bits .and .u64 (IntKind.u64.wrap ((Go.bits .and .u64 (a0 / 2) 6148914691236517205) + (Go.bits .and .u64 a0 6148914691236517205))) 3689348814741910323))) / 16) + (IntKind.u64.wrap ((Go.bits .and .u64 ((IntKind.u64.wrap ((Go.bits .and .u64 (a0 / 2) 6148914691236517205) + (Go.bits .and .u64 a0 6148914691236517205))) / 4) 3689348814741910323) + (Go.bits .and .u64 (IntKind.u64.wrap ((Go.bits .and .u64 (a0 / 2) 6148914691236517205) + (Go.bits .and .u64 a0 6148914691236517205))) 3689348814741910323))))) 1085102592571150095) + ((Go.bits .and .u64 (IntKind.u64.wrap (((IntKind.u64.wrap ((Go.bits .and .u64 ((IntKind.u64.wrap ((Go.bits .and .u64 (a0 / 2) 6148914691236517205) + (Go.bits .and .u64 a0 6148914691236517205))) / 4) 3689348814741910323) + (Go.bits .and .u64 (IntKind.u64.wrap ((Go.bits .and .u64 (a0 / 2) 6148914691236517205) + (Go.bits .and .u64 a0 6148914691236517205))) 3689348814741910323))) / 16) + (IntKind.u64.wrap ((Go.bits .and .u64 ((IntKind.u64.wrap ((Go.bits .and .u64 (a0 / 2) 6148914691236517205) + (Go.bits .and .u64 a0 6148914691236517205))) / 4) 3689348814741910323) + (Go.bits .and .u64 (IntKind.u64.wrap ((Go.bits .and .u64 (a0 / 2) 6148914691236517205) + (Go.bits .and .u64 a0 6148914691236517205))) 3689348814741910323))))) 1085102592571150095) / 256))) / 65536))) + ((IntKind.u64.wrap ((IntKind.u64.wrap ((Go.bits .and .u64 (IntKind.u64.wrap (((IntKind.u64.wrap ((Go.bits .and .u64 ((IntKind.u64.wrap ((Go.bits .and .u64 (a0 / 2) 6148914691236517205) + (Go.bits .and .u64 a0 6148914691236517205))) / 4) 3689348814741910323) + (Go.bits .and .u64 (IntKind.u64.wrap ((Go.bits .and .u64 (a0 / 2) 6148914691236517205) + (Go.bits .and .u64 a0 6148914691236517205))) 3689348814741910323))) / 16) + (IntKind.u64.wrap ((Go.bits .and .u64 ((IntKind.u64.wrap ((Go.bits .and .u64 (a0 / 2) 6148914691236517205) + (Go.bits .and .u64 a0 6148914691236517205))) / 4) 3689348814741910323) + (Go.bits .and .u64 (IntKind.u64.wrap ((Go.bits .and .u64 (a0 / 2) 6148914691236517205) + (Go.bits .and .u64 a0 6148914691236517205))) 3689348814741910323))))) 1085102592571150095) + ((Go.bits .and .u64 (IntKind.u64.wrap (((IntKind.u64.wrap ((Go.bits .and .u64 ((IntKind.u64.wrap ((Go.bits .and .u64 (a0 / 2) 6148914691236517205) + (Go.bits .and .u64 a0 6148914691236517205))) / 4) 3689348814741910323) + (Go.bits .and .u64 (IntKind.u64.wrap ((Go.bits .and .u64 (a0 / 2) 6148914691236517205) + (Go.bits .and .u64 a0 6148914691236517205))) 3689348814741910323))) / 16) + (IntKind.u64.wrap ((Go.bits .and .u64 ((IntKind.u64.wrap ((Go.bits .and .u64 (a0 / 2) 6148914691236517205) + (Go.bits .and .u64 a0 6148914691236517205))) / 4) 3689348814741910323) + (Go.bits .and .u64 (IntKind.u64.wrap ((Go.bits .and .u64 (a0 / 2) 6148914691236517205) + (Go.bits .and .u64 a0 6148914691236517205))) 3689348814741910323))))) 1085102592571150095) / 256))) + ((IntKind.u64.wrap ((Go.bits .and .u64 (IntKind.u64.wrap (((IntKind.u64.wrap ((Go.bits .and .u64 ((IntKind.u64.wrap ((Go.bits .and .u64 (a0 / 2) 6148914691236517205) + (Go.bits .and .u64 a0 6148914691236517205))) / 4) 3689348814741910323) + (Go.bits .and .u64 (IntKind.u64.wrap ((Go.bits .and .u64 (a0 / 2) 6148914691236517205) + (Go.bits .and .u64 a0 6148914691236517205))) 3689348814741910323))) / 16) + (IntKind.u64.wrap ((Go.bits .and .u64 ((IntKind.u64.wrap ((Go.bits .and .u64 (a0 / 2) 6148914691236517205) + (Go.bits .and .u64 a0 6148914691236517205))) / 4) 3689348814741910323) + (Go.bits .and .u64 (IntKind.u64.wrap ((Go.bits .and .u64 (a0 / 2) 6148914691236517205) + (Go.bits .and .u64 a0 6148914691236517205))) 3689348814741910323))))) 1085102592571150095) + ((Go.bits .and .u64 (IntKind.u64.wrap (((IntKind.u64.wrap ((Go.bits .and .u64 ((IntKind.u64.wrap ((Go.bits .and .u64 (a0 / 2) 6148914691236517205) + (Go.bits .and .u64 a0 6148914691236517205))) / 4) 3689348814741910323) + (Go.bits .and .u64 (IntKind.u64.wrap ((Go.bits .and .u64 (a0 / 2) 6148914691236517205) + (Go.bits .and .u64 a0 6148914691236517205))) 3689348814741910323))) / 16) + (IntKind.u64.wrap ((Go.bits .and .u64 ((IntKind.u64.wrap ((Go.bits .and .u64 (a0 / 2) 6148914691236517205) + (Go.bits .and .u64 a0 6148914691236517205))) / 4) 3689348814741910323) + (Go.bits .and .u64 (IntKind.u64.wrap ((Go.bits .and .u64 (a0 / 2) 6148914691236517205) + (Go.bits .and .u64 a0 6148914691236517205))) 3689348814741910323))))) 1085102592571150095) / 256))) / 65536))) / 4294967296)))) 127)
set_option maxHeartbeats 8000000 in
set_option maxRecDepth 100000 in
theorem bits_OnesCount64.calls (a0 : Int) (r : Int) (w : World) (h : bits_OnesCount64.f a0 = some r) :
    Calls Try.prog 78 #[.int .u64 a0] w fun e w' => e = .returned (.int .i64 r) ∧ Drawn0 w w' := by
  have H : (some (Go.bits .and .i64 (wrap64 (IntKind.u64.wrap ((IntKind.u64.wrap ((IntKind.u64.wrap ((Go.bits .and .u64 (IntKind.u64.wrap (((IntKind.u64.wrap ((Go.bits .and .u64 ((IntKind.u64.wrap ((Go.bits .and .u64 (a0 / 2) 6148914691236517205) + (Go.bits .and .u64 a0 6148914691236517205))) / 4) 3689348814741910323) + (Go.bits .and .u64 (IntKind.u64.wrap ((Go.bits .and .u64 (a0 / 2) 6148914691236517205) + (Go.bits .and .u64 a0 6148914691236517205))) 3689348814741910323))) / 16) + (IntKind.u64.wrap ((Go.bits .and .u64 ((IntKind.u64.wrap ((Go.bits .and .u64 (a0 / 2) 6148914691236517205) + (Go.bits .and .u64 a0 6148914691236517205))) / 4) 3689348814741910323) + (Go.bits .and .u64 (IntKind.u64.wrap ((Go.bits .and .u64 (a0 / 2) 6148914691236517205) + (Go.bits .and .u64 a0 6148914691236517205))) 3689348814741910323))))) 1085102592571150095) + ((Go.bits .and .u64 (IntKind.u64.wrap (((IntKind.u64.wrap ((Go.bits .and .u64 ((IntKind.u64.wrap ((Go.bits .and .u64 (a0 / 2) 6148914691236517205) + (Go.bits .and .u64 a0 6148914691236517205))) / 4) 3689348814741910323) + (Go.bits .and .u64 (IntKind.u64.wrap ((Go.bits .and .u64 (a0 / 2) 6148914691236517205) + (Go.bits .and .u64 a0 6148914691236517205))) 3689348814741910323))) / 16) + (IntKind.u64.wrap ((Go.bits .and .u64 ((IntKind.u64.wrap ((Go.bits .and .u64 (a0 / 2) 6148914691236517205) + (Go.bits .and .u64 a0 6148914691236517205))) / 4) 3689348814741910323) + (Go.bits .and .u64 (IntKind.u64.wrap ((Go.bits .and .u64 (a0 / 2) 6148914691236517205) + (Go.bits .and .u64 a0 6148914691236517205))) 3689348814741910323))))) 1085102592571150095) / 256))) + ((IntKind.u64.wrap ((Go.bits .and .u64 (IntKind.u64.wrap (((IntKind.u64.wrap ((Go.bits .and .u64 ((IntKind.u64.wrap ((Go.bits .and .u64 (a0 / 2) 6148914691236517205) + (Go.bits .and .u64 a0 6148914691236517205))) / 4) 3689348814741910323) + (Go.bits .and .u64 (IntKind.u64.wrap ((Go.bits .and .u64 (a0 / 2) 6148914691236517205) + (Go.bits .and .u64 a0 6148914691236517205))) 3689348814741910323))) / 16) + (IntKind.u64.wrap ((Go.bits .and .u64 ((IntKind.u64.wrap ((Go.bits .and .u64 (a0 / 2) 6148914691236517205) + (Go.bits .and .u64 a0 6148914691236517205))) / 4) 3689348814741910323) + (Go.bits .and .u64 (IntKind.u64.wrap ((Go.bits .and .u64 (a0 / 2) 6148914691236517205) + (Go.bits .and .u64 a0 6148914691236517205))) 3689348814741910323))))) 1085102592571150095) + ((Go.bits .and .u64 (IntKind.u64.wrap (((IntKind.u64.wrap ((Go.bits .and .u64 ((IntKind.u64.wrap ((Go.bits .and .u64 (a0 / 2) 6148914691236517205) + (Go.bits .and .u64 a0 6148914691236517205))) / 4) 3689348814741910323) + (Go.bits .and .u64 (IntKind.u64.wrap ((Go.bits .and .u64 (a0 / 2) 6148914691236517205) + (Go.bits .and .u64 a0 6148914691236517205))) 3689348814741910323))) / 16) + (IntKind.u64.wrap ((Go.bits .and .u64 ((IntKind.u64.wrap ((Go.bits .and .u64 (a0 / 2) 6148914691236517205) + (Go.bits .and .u64 a0 6148914691236517205))) / 4) 3689348814741910323) + (Go.bits .and .u64 (IntKind.u64.wrap ((Go.bits .and .u64 (a0 / 2) 6148914691236517205) + (Go.bits .and .u64 a0 6148914691236517205))) 3689348814741910323))))) 1085102592571150095) / 256))) / 65536))) + ((IntKind.u64.wrap ((IntKind.u64.wrap ((Go.bits .and .u64 (IntKind.u64.wrap (((IntKind.u64.wrap ((Go.bits .and .u64 ((IntKind.u64.wrap ((Go.bits .and .u64 (a0 / 2) 6148914691236517205) + (Go.bits .and .u64 a0 6148914691236517205))) / 4) 3689348814741910323) + (Go.bits .and .u64 (IntKind.u64.wrap ((Go.bits .and .u64 (a0 / 2) 6148914691236517205) + (Go.bits .and .u64 a0 6148914691236517205))) 3689348814741910323))) / 16) + (IntKind.u64.wrap ((Go.bits .and .u64 ((IntKind.u64.wrap ((Go.bits .and .u64 (a0 / 2) 6148914691236517205) + (Go.bits .and .u64 a0 6148914691236517205))) / 4) 3689348814741910323) + (Go.bits .and .u64 (IntKind.u64.wrap ((Go.bits .and .u64 (a0 / 2) 6148914691236517205) + (Go.bits .and .u64 a0 6148914691236517205))) 3689348814741910323))))) 1085102592571150095) + ((Go.bits .and .u64 (IntKind.u64.wrap (((IntKind.u64.wrap ((Go.bits .and .u64 ((IntKind.u64.wrap ((Go.bits .and .u64 (a0 / 2) 6148914691236517205) + (Go.bits .and .u64 a0 6148914691236517205))) / 4) 3689348814741910323) + (Go.bits .and .u64 (IntKind.u64.wrap ((Go.bits .and .u64 (a0 / 2) 6148914691236517205) + (Go.bits .and .u64 a0 6148914691236517205))) 3689348814741910323))) / 16) + (IntKind.u64.wrap ((Go.bits .and .u64 ((IntKind.u64.wrap ((Go.bits .and .u64 (a0 / 2) 6148914691236517205) + (Go.bits .and .u64 a0 6148914691236517205))) / 4) 3689348814741910323) + (Go.bits .and .u64 (IntKind.u64.wrap ((Go.bits .and .u64 (a0 / 2) 6148914691236517205) + (Go.bits .and .u64 a0 6148914691236517205))) 3689348814741910323))))) 1085102592571150095) / 256))) + ((IntKind.u64.wrap ((Go.bits .and .u64 (IntKind.u64.wrap (((IntKind.u64.wrap ((Go.bits .and .u64 ((IntKind.u64.wrap ((Go.bits .and .u64 (a0 / 2) 6148914691236517205) + (Go.bits .and .u64 a0 6148914691236517205))) / 4) 3689348814741910323) + (Go.bits .and .u64 (IntKind.u64.wrap ((Go.bits .and .u64 (a0 / 2) 6148914691236517205) + (Go.bits .and .u64 a0 6148914691236517205))) 3689348814741910323))) / 16) + (IntKind.u64.wrap ((Go.bits .and .u64 ((IntKind.u64.wrap ((Go.bits .and .u64 (a0 / 2) 6148914691236517205) + (Go.bits .and .u64 a0 6148914691236517205))) / 4) 3689348814741910323) + (Go.bits .and .u64 (IntKind.u64.wrap ((Go.bits .and .u64 (a0 / 2) 6148914691236517205) + (Go.bits .and .u64 a0 6148914691236517205))) 3689348814741910323))))) 1085102592571150095) + ((Go.bits .and .u64 (IntKind.u64.wrap (((IntKind.u64.wrap ((Go.bits .and .u64 ((IntKind.u64.wrap ((Go.bits .and .u64 (a0 / 2) 6148914691236517205) + (Go.bits .and .u64 a0 6148914691236517205))) / 4) 3689348814741910323) + (Go.bits .and .u64 (IntKind.u64.wrap ((Go.bits .and .u64 (a0 / 2) 6148914691236517205) + (Go.bits .and .u64 a0 6148914691236517205))) 3689348814741910323))) / 16) + (IntKind.u64.wrap ((Go.bits .and .u64 ((IntKind.u64.wrap ((Go.bits .and .u64 (a0 / 2) 6148914691236517205) + (Go.bits .and .u64 a0 6148914691236517205))) / 4) 3689348814741910323) + (Go.bits .and .u64 (IntKind.u64.wrap ((Go.bits .and .u64 (a0 / 2) 6148914691236517205) + (Go.bits .and .u64 a0 6148914691236517205))) 3689348814741910323))))) 1085102592571150095) / 256))) / 65536))) / 4294967296)))) 127)) = some r := h
  clear h
  obtain rfl := Option.some.inj H
  go_enter Try.func78, Try.ntmps78
  go_wp2
  go_ret
  exact ⟨by first | rfl | (simp; done) | (simp [*]; done) | (simp; grind), by repeat (first | exact Drawn0.refl _ | apply Drawn0.step)⟩
/-! ### bits_OnesCount: function 66 -/
def bits_OnesCount.f (a0 : Int) : Option (Int) := (bits_OnesCount64.f a0).bind fun t186 => (some t186)
set_option maxHeartbeats 8000000 in
set_option maxRecDepth 100000 in
theorem bits_OnesCount.calls (a0 : Int) (r : Int) (w : World) (h : bits_OnesCount.f a0 = some r) :
    Calls Try.prog 66 #[.int .u64 a0] w fun e w' => e = .returned (.int .i64 r) ∧ Drawn0 w w' := by
  have H : ((bits_OnesCount64.f a0).bind fun t186 => (some t186)) = some r := h
  clear h
  replace H := Option.bind_eq_some_iff.mp H
  obtain ⟨t186, A20, H⟩ := H
  replace H : (some t186) = some r := H
  have A2 := zM A20
  clear A20
  obtain rfl := Option.some.inj H
  go_enter Try.func66, Try.ntmps66
  go_wp2_with (first | ((with_reducible refine gate_callee (f := 78) rfl ?_); refine goL_ (some 7) Try.func78 #[.int .u64 a0] ?_; (with_reducible refine (bits_OnesCount64.calls a0 t186 _ A2.out).mono ?_); rintro e w' ⟨rfl, ⟨nd, rfl⟩⟩; refine ⟨_, rfl, ?_⟩))
  go_ret
  exact ⟨by first | rfl | (simp; done) | (simp [*]; done) | (simp; grind), by repeat (first | exact Drawn0.refl _ | apply Drawn0.step)⟩
/-! ### change_Size: function 59 -/
def change_Size.f (a0_0 : Int) (a0_1 : Int) : Option (Int) := (bits_OnesCount.f (IntKind.u64.wrap (a0_0))).bind fun t188 => ((bits_OnesCount.f (IntKind.u64.wrap (a0_1))).bind fun t189 => (some (wrap64 (t188 + t189))))
set_option maxHeartbeats 8000000 in
set_option maxRecDepth 100000 in
theorem change_Size.calls (a0_0 : Int) (a0_1 : Int) (r : Int) (w : World) (h : change_Size.f a0_0 a0_1 = some r) :
    Calls Try.prog 59 #[.agg #[.int .i64 a0_0, .int .i64 a0_1]] w fun e w' => e = .returned (.int .i64 r) ∧ Below w.heap.size w w' := by
  have hu24 := Try.underlying24
  have HB := zM (Below.refl w.heap.size w)
  have H : ((bits_OnesCount.f (IntKind.u64.wrap (a0_0))).bind fun t188 => ((bits_OnesCount.f (IntKind.u64.wrap (a0_1))).bind fun t189 => (some (wrap64 (t188 + t189))))) = some r := h
  clear h
  replace H := Option.bind_eq_some_iff.mp H
  obtain ⟨t188, A20, H⟩ := H
  replace H : ((bits_OnesCount.f (IntKind.u64.wrap (a0_1))).bind fun t189 => (some (wrap64 (t188 + t189)))) = some r := H
  have A2 := zM A20
  clear A20
  replace H := Option.bind_eq_some_iff.mp H
  obtain ⟨t189, A30, H⟩ := H
  replace H : (some (wrap64 (t188 + t189))) = some r := H
  have A3 := zM A30
  clear A30
  obtain rfl := Option.some.inj H
  go_enter Try.func59, Try.ntmps59
  go_wp2_with (first | ((with_reducible refine gld_ (t := 35) ?_); (try (refine gate_guard (by rfl) ?_; dsimp only)); first | refine wl15_ rfl 35 _ rfl rfl Try.underlying35 rfl (by kernel_rfl) ?_ | refine wlr15_ rfl 35 _ rfl rfl Try.underlying35 rfl (by kernel_rfl) ?_) | ((with_reducible refine gst_ (t := 35) ?_); refine ws15_ rfl 35 _ _ rfl rfl rfl (by kernel_rfl) ?_) | ((with_reducible refine gate_dst (N := 1) rfl ?_); refine box_event ?hg (N := 1) ?hd (cs := #[.int .i64 a0_0, .int .i64 a0_1]) (t := 24) ?hr ?_; (case hd => rfl); (case hg => rfl); (case hr => first | (go_simp; done) | (go_simp; rfl)); intro gb187 hg w4 hbox hb; have BK187 := zM (hbox); have GW187 := zM (bs_ hg); have GE187 := zM (bs_ hg); replace HB := zM (zB bel_ hb); clear hb hbox hg; have hcz5_0 : w4.cell? ⟨gb187, 0, none⟩ = some (.int .i64 a0_0) := (zL BK187.out 0).trans rfl; have hcz5_1 : w4.cell? ⟨gb187, 1, none⟩ = some (.int .i64 a0_1) := (zL BK187.out 1).trans rfl; have hfz5_0 := zF BK187.out 0; have hfz5_1 := zF BK187.out 1) | (go_at_call 66; (with_reducible refine (bits_OnesCount.calls (IntKind.u64.wrap (a0_0)) t188 _ A2.out).mono ?_); rintro e w' ⟨rfl, ⟨nd, rfl⟩⟩; (try first | exact ⟨rfl, _, World.drewN_drewN _ _ _⟩ | exact ⟨rfl, _, Eq.trans (World.drewN_drewN _ _ _) (congrArg (World.drewN _) (Nat.add_assoc _ _ _))⟩)) | (go_at_call 66; (with_reducible refine (bits_OnesCount.calls (IntKind.u64.wrap (a0_1)) t189 _ A3.out).mono ?_); rintro e w' ⟨rfl, ⟨nd, rfl⟩⟩; (try first | exact ⟨rfl, _, World.drewN_drewN _ _ _⟩ | exact ⟨rfl, _, Eq.trans (World.drewN_drewN _ _ _) (congrArg (World.drewN _) (Nat.add_assoc _ _ _))⟩)))
  repeat (go_quiet (first | ((with_reducible refine gate_dst (N := 1) rfl ?_); refine box_event ?hg (N := 1) ?hd (cs := #[.int .i64 a0_0, .int .i64 a0_1]) (t := 24) ?hr ?_; (case hd => rfl); (case hg => rfl); (case hr => first | (go_simp; done) | (go_simp; rfl)); intro gb187 hg w4 hbox hb; have BK187 := zM (hbox); have GW187 := zM (bs_ hg); have GE187 := zM (bs_ hg); replace HB := zM (zB bel_ hb); clear hb hbox hg; have hcz5_0 : w4.cell? ⟨gb187, 0, none⟩ = some (.int .i64 a0_0) := (zL BK187.out 0).trans rfl; have hcz5_1 : w4.cell? ⟨gb187, 1, none⟩ = some (.int .i64 a0_1) := (zL BK187.out 1).trans rfl; have hfz5_0 := zF BK187.out 0; have hfz5_1 := zF BK187.out 1) | (go_at_call 66; (with_reducible refine (bits_OnesCount.calls (IntKind.u64.wrap (a0_0)) t188 _ A2.out).mono ?_); rintro e w' ⟨rfl, ⟨nd, rfl⟩⟩; (try first | exact ⟨rfl, _, World.drewN_drewN _ _ _⟩ | exact ⟨rfl, _, Eq.trans (World.drewN_drewN _ _ _) (congrArg (World.drewN _) (Nat.add_assoc _ _ _))⟩)) | (go_at_call 66; (with_reducible refine (bits_OnesCount.calls (IntKind.u64.wrap (a0_1)) t189 _ A3.out).mono ?_); rintro e w' ⟨rfl, ⟨nd, rfl⟩⟩; (try first | exact ⟨rfl, _, World.drewN_drewN _ _ _⟩ | exact ⟨rfl, _, Eq.trans (World.drewN_drewN _ _ _) (congrArg (World.drewN _) (Nat.add_assoc _ _ _))⟩))); try go_wp2_with (first | ((with_reducible refine gld_ (t := 35) ?_); (try (refine gate_guard (by rfl) ?_; dsimp only)); first | refine wl15_ rfl 35 _ rfl rfl Try.underlying35 rfl (by kernel_rfl) ?_ | refine wlr15_ rfl 35 _ rfl rfl Try.underlying35 rfl (by kernel_rfl) ?_) | ((with_reducible refine gst_ (t := 35) ?_); refine ws15_ rfl 35 _ _ rfl rfl rfl (by kernel_rfl) ?_) | ((with_reducible refine gate_dst (N := 1) rfl ?_); refine box_event ?hg (N := 1) ?hd (cs := #[.int .i64 a0_0, .int .i64 a0_1]) (t := 24) ?hr ?_; (case hd => rfl); (case hg => rfl); (case hr => first | (go_simp; done) | (go_simp; rfl)); intro gb187 hg w4 hbox hb; have BK187 := zM (hbox); have GW187 := zM (bs_ hg); have GE187 := zM (bs_ hg); replace HB := zM (zB bel_ hb); clear hb hbox hg; have hcz5_0 : w4.cell? ⟨gb187, 0, none⟩ = some (.int .i64 a0_0) := (zL BK187.out 0).trans rfl; have hcz5_1 : w4.cell? ⟨gb187, 1, none⟩ = some (.int .i64 a0_1) := (zL BK187.out 1).trans rfl; have hfz5_0 := zF BK187.out 0; have hfz5_1 := zF BK187.out 1) | (go_at_call 66; (with_reducible refine (bits_OnesCount.calls (IntKind.u64.wrap (a0_0)) t188 _ A2.out).mono ?_); rintro e w' ⟨rfl, ⟨nd, rfl⟩⟩; (try first | exact ⟨rfl, _, World.drewN_drewN _ _ _⟩ | exact ⟨rfl, _, Eq.trans (World.drewN_drewN _ _ _) (congrArg (World.drewN _) (Nat.add_assoc _ _ _))⟩)) | (go_at_call 66; (with_reducible refine (bits_OnesCount.calls (IntKind.u64.wrap (a0_1)) t189 _ A3.out).mono ?_); rintro e w' ⟨rfl, ⟨nd, rfl⟩⟩; (try first | exact ⟨rfl, _, World.drewN_drewN _ _ _⟩ | exact ⟨rfl, _, Eq.trans (World.drewN_drewN _ _ _) (congrArg (World.drewN _) (Nat.add_assoc _ _ _))⟩))))
  go_ret
  exact ⟨by first | rfl | (simp [errW_none, errW_some] <;> rfl) | (simp [*, errW_none, errW_some] <;> rfl), bel_⟩
/-! ### change_Name: function 60 -/
def change_Name.f (a0_0 : Int) (a0_1 : Int) : Option (Int) := some (wrap64 ((wrap64 (a0_0 * 64)) + a0_1))
set_option maxHeartbeats 8000000 in
set_option maxRecDepth 100000 in
theorem change_Name.calls (a0_0 : Int) (a0_1 : Int) (r : Int) (w : World) (h : change_Name.f a0_0 a0_1 = some r) :
    Calls Try.prog 60 #[.agg #[.int .i64 a0_0, .int .i64 a0_1]] w fun e w' => e = .returned (.int .i64 r) ∧ Below w.heap.size w w' := by
  have hu24 := Try.underlying24
  have HB := zM (Below.refl w.heap.size w)
  have H : (some (wrap64 ((wrap64 (a0_0 * 64)) + a0_1))) = some r := h
  clear h
  obtain rfl := Option.some.inj H
  go_enter Try.func60, Try.ntmps60
  go_wp2_with (first | ((with_reducible refine gld_ (t := 35) ?_); (try (refine gate_guard (by rfl) ?_; dsimp only)); first | refine wl15_ rfl 35 _ rfl rfl Try.underlying35 rfl (by kernel_rfl) ?_ | refine wlr15_ rfl 35 _ rfl rfl Try.underlying35 rfl (by kernel_rfl) ?_) | ((with_reducible refine gst_ (t := 35) ?_); refine ws15_ rfl 35 _ _ rfl rfl rfl (by kernel_rfl) ?_) | ((with_reducible refine gate_dst (N := 1) rfl ?_); refine box_event ?hg (N := 1) ?hd (cs := #[.int .i64 a0_0, .int .i64 a0_1]) (t := 24) ?hr ?_; (case hd => rfl); (case hg => rfl); (case hr => first | (go_simp; done) | (go_simp; rfl)); intro gb190 hg w2 hbox hb; have BK190 := zM (hbox); have GW190 := zM (bs_ hg); have GE190 := zM (bs_ hg); replace HB := zM (zB bel_ hb); clear hb hbox hg; have hcz3_0 : w2.cell? ⟨gb190, 0, none⟩ = some (.int .i64 a0_0) := (zL BK190.out 0).trans rfl; have hcz3_1 : w2.cell? ⟨gb190, 1, none⟩ = some (.int .i64 a0_1) := (zL BK190.out 1).trans rfl; have hfz3_0 := zF BK190.out 0; have hfz3_1 := zF BK190.out 1))
  go_ret
  exact ⟨by first | rfl | (simp [errW_none, errW_some] <;> rfl) | (simp [*, errW_none, errW_some] <;> rfl), bel_⟩
/-! ### view_compare: function 48 -/
def view_compare.f (k : Nat) (a0_0 : Int) (a0_1 : Int) (a1_0 : Int) (a1_1 : Int) : Option (Int) := (change_Size.f a0_0 a0_1).bind fun t193 => ((change_Size.f a1_0 a1_1).bind fun t194 => ((cmp_Compare_int.f t193 t194).bind fun t195 => ((change_Name.f a0_0 a0_1).bind fun t196 => ((change_Name.f a1_0 a1_1).bind fun t197 => ((cmp_Compare_int.f t196 t197).bind fun t198 => ((cmp_Or_int.f k (([t195, t198] : List Int))).bind fun t202 => (some t202)))))))
theorem view_compare.mono : ∀ a0 a1 a2 a3 k, LeO (view_compare.f k a0 a1 a2 a3) (view_compare.f (k + 1) a0 a1 a2 a3) := by
  intro a0 a1 a2 a3 k
  unfold view_compare.f
  repeat' first
      | (with_reducible exact cmp_Or_int.mono _ _)
      | (with_reducible exact LeO.refl _)
      | (with_reducible exact LeO.none _)
      | (with_reducible refine LeO.ite ?_ ?_)
      | (with_reducible refine LeO.bind ?_ (fun _ => ?_))
      | exact cmp_Or_int.mono _ _
      | exact LeO.none _
      | refine LeO.ite ?_ ?_
      | refine LeO.bind ?_ (fun _ => ?_)
def view_compare.T1 : Bool × List (List Nat × List Nat) := (true, [([], []), ([0], [0]), ([], []), ([2, 1], [2]), ([1, 3, 3], [1, 3]), ([], []), ([5, 4], [5]), ([], []), ([7, 6], [7]), ([6, 8, 8], [6, 8]), ([4, 9], [4, 9]), ([10, 9], [10]), ([11, 11, 0, 1, 2, 3, 4, 5, 6, 7, 8, 9, 10, 11], [11])])
def view_compare.B1 : List Nat := [0, 1, 0, 7, 15, 0, 63, 0, 255, 511, 1023, 2047, 4095]
theorem view_compare.tab1 : rtab .any (opsOf Try.f48 1) = view_compare.T1 := by kernel_rfl
theorem view_compare.bits1 : waitsOk view_compare.T1.2 view_compare.B1 = true := by kernel_rfl
set_option maxHeartbeats 8000000 in
set_option maxRecDepth 100000 in
theorem view_compare.calls (k : Nat) (a0_0 : Int) (a0_1 : Int) (a1_0 : Int) (a1_1 : Int) (r : Int) (w : World) (h : view_compare.f k a0_0 a0_1 a1_0 a1_1 = some r) :
    Calls Try.prog 48 #[.agg #[.int .i64 a0_0, .int .i64 a0_1], .agg #[.int .i64 a1_0, .int .i64 a1_1]] w fun e w' => e = .returned (.int .i64 r) ∧ Below w.heap.size w w' := by
  have hu24 := Try.underlying24
  have HB := zM (Below.refl w.heap.size w)
  have H : ((change_Size.f a0_0 a0_1).bind fun t193 => ((change_Size.f a1_0 a1_1).bind fun t194 => ((cmp_Compare_int.f t193 t194).bind fun t195 => ((change_Name.f a0_0 a0_1).bind fun t196 => ((change_Name.f a1_0 a1_1).bind fun t197 => ((cmp_Compare_int.f t196 t197).bind fun t198 => ((cmp_Or_int.f k (([t195, t198] : List Int))).bind fun t202 => (some t202)))))))) = some r := h
  clear h
  replace H := Option.bind_eq_some_iff.mp H
  obtain ⟨t193, A30, H⟩ := H
  replace H : ((change_Size.f a1_0 a1_1).bind fun t194 => ((cmp_Compare_int.f t193 t194).bind fun t195 => ((change_Name.f a0_0 a0_1).bind fun t196 => ((change_Name.f a1_0 a1_1).bind fun t197 => ((cmp_Compare_int.f t196 t197).bind fun t198 => ((cmp_Or_int.f k (([t195, t198] : List Int))).bind fun t202 => (some t202))))))) = some r := H
  have A3 := zM A30
  clear A30
  replace H := Option.bind_eq_some_iff.mp H
  obtain ⟨t194, A40, H⟩ := H
  replace H : ((cmp_Compare_int.f t193 t194).bind fun t195 => ((change_Name.f a0_0 a0_1).bind fun t196 => ((change_Name.f a1_0 a1_1).bind fun t197 => ((cmp_Compare_int.f t196 t197).bind fun t198 => ((cmp_Or_int.f k (([t195, t198] : List Int))).bind fun t202 => (some t202)))))) = some r := H
  have A4 := zM A40
  clear A40
  replace H := Option.bind_eq_some_iff.mp H
  obtain ⟨t195, A50, H⟩ := H
  replace H : ((change_Name.f a0_0 a0_1).bind fun t196 => ((change_Name.f a1_0 a1_1).bind fun t197 => ((cmp_Compare_int.f t196 t197).bind fun t198 => ((cmp_Or_int.f k (([t195, t198] : List Int))).bind fun t202 => (some t202))))) = some r := H
  have A5 := zM A50
  clear A50
  replace H := Option.bind_eq_some_iff.mp H
  obtain ⟨t196, A60, H⟩ := H
  replace H : ((change_Name.f a1_0 a1_1).bind fun t197 => ((cmp_Compare_int.f t196 t197).bind fun t198 => ((cmp_Or_int.f k (([t195, t198] : List Int))).bind fun t202 => (some t202)))) = some r := H
  have A6 := zM A60
  clear A60
  replace H := Option.bind_eq_some_iff.mp H
  obtain ⟨t197, A70, H⟩ := H
  replace H : ((cmp_Compare_int.f t196 t197).bind fun t198 => ((cmp_Or_int.f k (([t195, t198] : List Int))).bind fun t202 => (some t202))) = some r := H
  have A7 := zM A70
  clear A70
  replace H := Option.bind_eq_some_iff.mp H
  obtain ⟨t198, A80, H⟩ := H
  replace H : ((cmp_Or_int.f k (([t195, t198] : List Int))).bind fun t202 => (some t202)) = some r := H
  have A8 := zM A80
  clear A80
  obtain ⟨y199, hy199⟩ : ∃ y_ : List Int, y_ = (([t195, t198] : List Int)) := ⟨_, rfl⟩
  replace H : ((cmp_Or_int.f k y199).bind fun t202 => (some t202)) = some r := by first | (rw [hy199]; with_reducible exact H) | (have H2_ := (Option.bind_some _ _).symm.trans H; rw [hy199]; with_reducible exact H2_) | (have H2_ := (Option.bind_some _ _).symm.trans H; with_reducible exact H2_) | with_reducible exact H | (rw [hy199]; exact H) | exact H
  have Ny199 := zM hy199
  clear hy199
  replace H := Option.bind_eq_some_iff.mp H
  obtain ⟨t202, A90, H⟩ := H
  replace H : (some t202) = some r := H
  have A9 := zM A90
  clear A90
  obtain rfl := Option.some.inj H
  go_enter Try.func48, Try.ntmps48
  try go_wp2_with (first | ((with_reducible refine gld_ (t := 35) ?_); (try (refine gate_guard (by rfl) ?_; dsimp only)); first | refine wl15_ rfl 35 _ rfl rfl Try.underlying35 rfl (by kernel_rfl) ?_ | refine wlr15_ rfl 35 _ rfl rfl Try.underlying35 rfl (by kernel_rfl) ?_) | ((with_reducible refine gst_ (t := 35) ?_); refine ws15_ rfl 35 _ _ rfl rfl rfl (by kernel_rfl) ?_) | ((with_reducible refine gate_dst (N := 2) rfl ?_); refine box_event ?hg (N := 2) ?hd (cs := #[.int .i64 a0_0, .int .i64 a0_1]) (t := 24) ?hr ?_; (case hd => rfl); (case hg => rfl); (case hr => first | (go_simp; done) | (go_simp; rfl)); intro gb191 hg w10 hbox hb; have BK191 := zM (hbox); have GW191 := zM (bs_ hg); have GE191 := zM (bs_ hg); replace HB := zM (zB bel_ hb); clear hb hbox hg) | ((with_reducible refine gate_dst (N := 3) rfl ?_); refine box_event ?hg (N := 3) ?hd (cs := #[.int .i64 a1_0, .int .i64 a1_1]) (t := 24) ?hr ?_; (case hd => rfl); (case hg => rfl); (case hr => first | (go_simp; done) | (go_simp; rfl)); intro gb192 hg w11 hbox hb; have BK192 := zM (hbox); have GW192 := zM (bs_ hg); have GE192 := zM (bs_ hg); replace HB := zM (zB bel_ hb); have NB191_192 := zM (nl_ BK191 hg); have NB192_191 := zM (ng_ BK191 hg); replace BK191 := zM (bb_ BK191 hb); clear hb hbox hg))
  replace BK191 := zM (zD BK191.out)
  replace BK192 := zM (zD BK192.out)
  replace HB := zM (below_drew1 HB.out)
  refine start_ (n := 13) (S := fun w' => w'.cell? ⟨gb191, 0, none⟩ = some (.int .i64 a0_0) ∧ w'.cell? ⟨gb191, 1, none⟩ = some (.int .i64 a0_1) ∧ w'.cell? ⟨gb192, 0, none⟩ = some (.int .i64 a1_0) ∧ w'.cell? ⟨gb192, 1, none⟩ = some (.int .i64 a1_1)) (ds := []) #[F_, F_, F_, F_, F_, F_, F_, F_, F_, F_, F_, F_, F_] (by kernel_rfl) rfl rfl ⟨(zL BK191.out 0).trans rfl, (zL BK191.out 1).trans rfl, (zL BK192.out 0).trans rfl, (zL BK192.out 1).trans rfl⟩ (fun hHeld => ?_); refine with_tabW view_compare.tab1 view_compare.bits1 (fun HT_ HW_ => ?_)
  generalize w11.drew = w12 at BK191 BK192 HB hHeld ⊢
  refine take_ (i := 0) (N := some 5) (v := ?_) (a' := ?_) #[T_, F_, F_, F_, F_, F_, F_, F_, F_, F_, F_, F_, F_] rfl rfl (take_ofW HT_.out HW_.out (by kernel_rfl)) (fun _ _ _ h => h) (Or.inl ⟨by rfl, ?_⟩) hHeld ?_ ?_
  rotate_left
  · rintro w' ⟨s0, s1, s2, s3⟩
    go_simp
    with_reducible rfl
  rotate_left
  · simp only [Act.put, zS, zZ, zC, i64_w, i32_w]
    rfl
  refine take_ (i := 2) (N := some 7) (v := ?_) (a' := ?_) #[T_, F_, T_, F_, F_, F_, F_, F_, F_, F_, F_, F_, F_] rfl rfl (take_ofW HT_.out HW_.out (by kernel_rfl)) (fun _ _ _ h => h) (Or.inl ⟨by rfl, ?_⟩) hHeld ?_ ?_
  rotate_left
  · rintro w' ⟨s0, s1, s2, s3⟩
    go_simp
    with_reducible rfl
  rotate_left
  · simp only [Act.put, zS, zZ, zC, i64_w, i32_w]
    rfl
  refine take_ (i := 5) (N := some 10) (v := ?_) (a' := ?_) #[T_, F_, T_, F_, F_, T_, F_, F_, F_, F_, F_, F_, F_] rfl rfl (take_ofW HT_.out HW_.out (by kernel_rfl)) (fun _ _ _ h => h) (Or.inl ⟨by rfl, ?_⟩) hHeld ?_ ?_
  rotate_left
  · rintro w' ⟨s0, s1, s2, s3⟩
    go_simp
    with_reducible rfl
  rotate_left
  · simp only [Act.put, zS, zZ, zC, i64_w, i32_w]
    rfl
  refine take_ (i := 7) (N := some 12) (v := ?_) (a' := ?_) #[T_, F_, T_, F_, F_, T_, F_, T_, F_, F_, F_, F_, F_] rfl rfl (take_ofW HT_.out HW_.out (by kernel_rfl)) (fun _ _ _ h => h) (Or.inl ⟨by rfl, ?_⟩) hHeld ?_ ?_
  rotate_left
  · rintro w' ⟨s0, s1, s2, s3⟩
    go_simp
    with_reducible rfl
  rotate_left
  · simp only [Act.put, zS, zZ, zC, i64_w, i32_w]
    rfl
  refine one_ (i := 1) (N := some 6) #[T_, T_, T_, F_, F_, T_, F_, T_, F_, F_, F_, F_, F_] rfl rfl (one_of HT_.out (by kernel_rfl)) (by decide) (fun K hK => ?_)
  refine goes_ Try.func59 (by kernel_rfl) rfl #[.agg #[.int .i64 a0_0, .int .i64 a0_1]] (by rfl) rfl rfl (by (try simp only [List.map_toArray, List.map_cons, List.map_nil]); first | done | rfl | (simp only [List.length_drop, List.length_take]; rfl)) ?_
  with_reducible refine (change_Size.calls a0_0 a0_1 t193 _ A3.out).mono ?_
  rintro e w13 ⟨rfl, hb⟩
  refine ⟨_, rfl, ?_⟩
  replace BK191 := zM (bb_ BK191 hb)
  replace BK192 := zM (bb_ BK192 hb)
  replace HB := zM (zB bel_ hb)
  (try clear hb)
  (try clear hb2)
  (try clear hk)
  (try clear hi)
  refine hK.out _ _ ⟨(zL BK191.out 0).trans rfl, (zL BK191.out 1).trans rfl, (zL BK192.out 0).trans rfl, (zL BK192.out 1).trans rfl⟩ (fun hHeld => ?_)
  clear hK K
  refine norm_ (a' := ?_) ?_ ?_
  rotate_left
  · show Act.put _ (some 6) _ = _
    simp only [Act.put, zS, zZ, zC, i64_w, i32_w]
    rfl
  refine one_ (i := 3) (N := some 8) #[T_, T_, T_, T_, F_, T_, F_, T_, F_, F_, F_, F_, F_] rfl rfl (one_of HT_.out (by kernel_rfl)) (by decide) (fun K hK => ?_)
  refine goes_ Try.func59 (by kernel_rfl) rfl #[.agg #[.int .i64 a1_0, .int .i64 a1_1]] (by rfl) rfl rfl (by (try simp only [List.map_toArray, List.map_cons, List.map_nil]); first | done | rfl | (simp only [List.length_drop, List.length_take]; rfl)) ?_
  with_reducible refine (change_Size.calls a1_0 a1_1 t194 _ A4.out).mono ?_
  rintro e w14 ⟨rfl, hb⟩
  refine ⟨_, rfl, ?_⟩
  replace BK191 := zM (bb_ BK191 hb)
  replace BK192 := zM (bb_ BK192 hb)
  replace HB := zM (zB bel_ hb)
  (try clear hb)
  (try clear hb2)
  (try clear hk)
  (try clear hi)
  refine hK.out _ _ ⟨(zL BK191.out 0).trans rfl, (zL BK191.out 1).trans rfl, (zL BK192.out 0).trans rfl, (zL BK192.out 1).trans rfl⟩ (fun hHeld => ?_)
  clear hK K
  refine norm_ (a' := ?_) ?_ ?_
  rotate_left
  · show Act.put _ (some 8) _ = _
    simp only [Act.put, zS, zZ, zC, i64_w, i32_w]
    rfl
  refine one_ (i := 4) (N := some 9) #[T_, T_, T_, T_, T_, T_, F_, T_, F_, F_, F_, F_, F_] rfl rfl (one_of HT_.out (by kernel_rfl)) (by decide) (fun K hK => ?_)
  refine goes_ Try.func58 (by kernel_rfl) rfl #[.int .i64 t193, .int .i64 t194] (by rfl) rfl rfl (by (try simp only [List.map_toArray, List.map_cons, List.map_nil]); first | done | rfl | (simp only [List.length_drop, List.length_take]; rfl)) ?_
  with_reducible refine (cmp_Compare_int.calls t193 t194 t195 _ A5.out).mono ?_
  rintro e w' ⟨rfl, ⟨nd, rfl⟩⟩
  refine ⟨_, rfl, ?_⟩
  refine hK.out _ _ ⟨(zL BK191.out 0).trans rfl, (zL BK191.out 1).trans rfl, (zL BK192.out 0).trans rfl, (zL BK192.out 1).trans rfl⟩ (fun hHeld => ?_)
  clear hK K
  refine norm_ (a' := ?_) ?_ ?_
  rotate_left
  · show Act.put _ (some 9) _ = _
    simp only [Act.put, zS, zZ, zC, i64_w, i32_w]
    rfl
  refine one_ (i := 6) (N := some 11) #[T_, T_, T_, T_, T_, T_, T_, T_, F_, F_, F_, F_, F_] rfl rfl (one_of HT_.out (by kernel_rfl)) (by decide) (fun K hK => ?_)
  refine goes_ Try.func60 (by kernel_rfl) rfl #[.agg #[.int .i64 a0_0, .int .i64 a0_1]] (by rfl) rfl rfl (by (try simp only [List.map_toArray, List.map_cons, List.map_nil]); first | done | rfl | (simp only [List.length_drop, List.length_take]; rfl)) ?_
  with_reducible refine (change_Name.calls a0_0 a0_1 t196 _ A6.out).mono ?_
  rintro e w15 ⟨rfl, hb⟩
  refine ⟨_, rfl, ?_⟩
  replace BK191 := zM (bb_ BK191 hb)
  replace BK192 := zM (bb_ BK192 hb)
  replace HB := zM (zB bel_ hb)
  (try clear hb)
  (try clear hb2)
  (try clear hk)
  (try clear hi)
  refine hK.out _ _ ⟨(zL BK191.out 0).trans rfl, (zL BK191.out 1).trans rfl, (zL BK192.out 0).trans rfl, (zL BK192.out 1).trans rfl⟩ (fun hHeld => ?_)
  clear hK K
  refine norm_ (a' := ?_) ?_ ?_
  rotate_left
  · show Act.put _ (some 11) _ = _
    simp only [Act.put, zS, zZ, zC, i64_w, i32_w]
    rfl
  refine one_ (i := 8) (N := some 13) #[T_, T_, T_, T_, T_, T_, T_, T_, T_, F_, F_, F_, F_] rfl rfl (one_of HT_.out (by kernel_rfl)) (by decide) (fun K hK => ?_)
  refine goes_ Try.func60 (by kernel_rfl) rfl #[.agg #[.int .i64 a1_0, .int .i64 a1_1]] (by rfl) rfl rfl (by (try simp only [List.map_toArray, List.map_cons, List.map_nil]); first | done | rfl | (simp only [List.length_drop, List.length_take]; rfl)) ?_
  with_reducible refine (change_Name.calls a1_0 a1_1 t197 _ A7.out).mono ?_
  rintro e w16 ⟨rfl, hb⟩
  refine ⟨_, rfl, ?_⟩
  replace BK191 := zM (bb_ BK191 hb)
  replace BK192 := zM (bb_ BK192 hb)
  replace HB := zM (zB bel_ hb)
  (try clear hb)
  (try clear hb2)
  (try clear hk)
  (try clear hi)
  refine hK.out _ _ ⟨(zL BK191.out 0).trans rfl, (zL BK191.out 1).trans rfl, (zL BK192.out 0).trans rfl, (zL BK192.out 1).trans rfl⟩ (fun hHeld => ?_)
  clear hK K
  refine norm_ (a' := ?_) ?_ ?_
  rotate_left
  · show Act.put _ (some 13) _ = _
    simp only [Act.put, zS, zZ, zC, i64_w, i32_w]
    rfl
  refine one_ (i := 9) (N := some 14) #[T_, T_, T_, T_, T_, T_, T_, T_, T_, T_, F_, F_, F_] rfl rfl (one_of HT_.out (by kernel_rfl)) (by decide) (fun K hK => ?_)
  refine goes_ Try.func58 (by kernel_rfl) rfl #[.int .i64 t196, .int .i64 t197] (by rfl) rfl rfl (by (try simp only [List.map_toArray, List.map_cons, List.map_nil]); first | done | rfl | (simp only [List.length_drop, List.length_take]; rfl)) ?_
  with_reducible refine (cmp_Compare_int.calls t196 t197 t198 _ A8.out).mono ?_
  rintro e w' ⟨rfl, ⟨nd, rfl⟩⟩
  refine ⟨_, rfl, ?_⟩
  refine hK.out _ _ ⟨(zL BK191.out 0).trans rfl, (zL BK191.out 1).trans rfl, (zL BK192.out 0).trans rfl, (zL BK192.out 1).trans rfl⟩ (fun hHeld => ?_)
  clear hK K
  refine norm_ (a' := ?_) ?_ ?_
  rotate_left
  · show Act.put _ (some 14) _ = _
    simp only [Act.put, zS, zZ, zC, i64_w, i32_w]
    rfl
  refine one_ (i := 10) (N := some 15) #[T_, T_, T_, T_, T_, T_, T_, T_, T_, T_, T_, F_, F_] rfl rfl (one_of HT_.out (by kernel_rfl)) (by decide) (fun K hK => ?_)
  refine Kd.R_lit_step (Kd.int .i64) _ 3 ?hg (N := 15) ?hd (xs := ([t195, t198] : List Int)) (inner := [.int .i64 t195, .int .i64 t198]) (ok := fun _ => True) (okp := fun _ => True) ?hr ?hp (fun _ hk => hk) trivial (Below.refl _ _) (Nat.le_refl _) (by simp) ?_; (case hd => rfl); (case hg => rfl); (case hr => first | (go_simp; done) | (go_simp; rfl)); (case hp => exact (Reps.one (show Kd.M (Kd.int .i64) _ _ _ t195 [.int .i64 t195] from rfl) (Reps.one (show Kd.M (Kd.int .i64) _ _ _ t198 [.int .i64 t198] from rfl) (Reps.none _ _))))
  intro v200 w17 ho18 hb hg_ hnew_
  clear hg_ hnew_
  (first | rw [← Ny199.out] at ho18 | (simp only [Int.reduceToNat] at ho18; rw [← Ny199.out] at ho18))
  have HO201 := zM (Kd.R_lower ho18 (below_size bel_))
  replace BK191 := zM (bb_ BK191 hb)
  replace BK192 := zM (bb_ BK192 hb)
  replace HB := zM (zB bel_ hb)
  clear hb ho18
  obtain ⟨Ao19, co19, eo19⟩ := Kd.R_slice HO201.out
  (first | subst eo19 | (injection eo19 with f1_ f2_ f3_; have f4_ := f1_.symm; have f5_ := f3_.symm; clear f1_ f2_ f3_; subst f4_; subst f5_))
  refine hK.out _ _ ⟨(zL BK191.out 0).trans rfl, (zL BK191.out 1).trans rfl, (zL BK192.out 0).trans rfl, (zL BK192.out 1).trans rfl⟩ (fun hHeld => ?_)
  clear hK K
  refine norm_ (a' := ?_) ?_ ?_
  rotate_left
  · show Act.put _ (some 15) _ = _
    simp only [Act.put, zS, zZ, zC, i64_w, i32_w]
    rfl
  refine one_ (i := 11) (N := some 16) #[T_, T_, T_, T_, T_, T_, T_, T_, T_, T_, T_, T_, F_] rfl rfl (one_of HT_.out (by kernel_rfl)) (by decide) (fun K hK => ?_)
  refine goes_ Try.func57 (by kernel_rfl) rfl #[.slice Ao19 y199.length co19] (by rfl) rfl rfl (by (try simp only [List.map_toArray, List.map_cons, List.map_nil]); first | done | rfl | (simp only [List.length_drop, List.length_take]; rfl)) ?_
  with_reducible refine (cmp_Or_int.calls k _ _ y199 t202 _ ?side1 ?side2 A9.out).mono ?_
  (case side1 => repeat (first | exact (Kd.R_reads' HO201.out).2.2 | (with_reducible refine Kd.C_alloc ?_ _) | (with_reducible refine Kd.C_drewN ?_ _) | (with_reducible refine Kd.C_drew ?_)))
  (case side2 => exact (Kd.R_reads' HO201.out).2.1)
  rintro e w' ⟨rfl, ⟨nd, rfl⟩⟩
  refine ⟨_, rfl, ?_⟩
  refine hK.out _ _ ⟨(zL BK191.out 0).trans rfl, (zL BK191.out 1).trans rfl, (zL BK192.out 0).trans rfl, (zL BK192.out 1).trans rfl⟩ (fun hHeld => ?_)
  clear hK K
  refine norm_ (a' := ?_) ?_ ?_
  rotate_left
  · show Act.put _ (some 16) _ = _
    simp only [Act.put, zS, zZ, zC, i64_w, i32_w]
    rfl
  refine pure_ (i := 12) (N := some 4) (v := ?_) (a' := ?_) #[T_, T_, T_, T_, T_, T_, T_, T_, T_, T_, T_, T_, T_] rfl rfl (any_of HT_.out (by kernel_rfl)) (fun _ _ _ h => h) (Or.inl ⟨by rfl, ?_⟩) ?_ ?_
  rotate_left
  · intro w'
    go_simp
    with_reducible rfl
  rotate_left
  · simp only [Act.put, zS, zZ, zC, i64_w, i32_w]
    rfl
  refine done_ (done_of HT_.out (by kernel_rfl)) ?_
  try go_wp2
  go_ret
  exact ⟨by first | rfl | (simp [errW_none, errW_some] <;> rfl) | (simp [*, errW_none, errW_some] <;> rfl), bel_⟩
end Go.Proofs.Ytmenkbdaabjojaa.PPastSources
