/- Written by a program of this session (wip/tool/px.py) over the kit's print: what the code that the law RoundStays reaches computes, function by function, and the law's row. -/
import Derived.Test.YtmgiaappokkjfaaPRoundStaysx0
import Derived.Test.YtmgiaappokkjfaaPRoundStaysx2
namespace Go.Proofs.Ytmgiaappokkjfaa.PRoundStays
open Go.RowKit Go.Proofs.YtmgiaappokkjfaaX Go.Proofs.YtmgiaappokkjfaaW.PrintWords Go.Proofs.YtmgiaappokkjfaaW.PrintLast Go.Proofs.YtmgiaappokkjfaaW.PrintMore
open Go.Proofs.YtmgiaappokkjfaaW.PrintWords renaming blk_drewN → zN, blk_drew → zD, blk_alloc → zA, blk_cell → zL, blk_frozen → zF, below_step → zB
open Go.Proofs.YtmgiaappokkjfaaW.PrintWords.Aside0 renaming mk → zM
attribute [local go_sem] max2_int min2_int max_two min_two max_three min_three max_four min_four   -- for this text's walks alone
set_option linter.unusedVariables false
set_option linter.unusedSimpArgs false

attribute [local go_sem] px_store_float px_neg_float
attribute [local go_sem] px_eqarr67 px_nilq24 px_nilq25
/-! ### api_Cell_70: function 70 -/
mutual
def api_Cell_70.l0 : Nat → List (List (S43)) → Int → List (List (S43)) → Int → Int → Option ((List (S43)))
  | 0, _, _, _, _, _ => none
  | k + 1, x0, x3, x9, x10, x11 => if x11 < x10 then (if 0 ≤ x11 then (if x11 < (x9.length : Int) then (if (wrap64 (x3 + ((rd_L6 x9 x11).length : Int))) < 0 then (none) else (api_Cell_70.l0 k x0 (wrap64 (x3 + ((rd_L6 x9 x11).length : Int))) x9 x10 (wrap64 (x11 + 1)))) else (none)) else (none)) else ((api_Cell_89.f x3).bind fun t147 => (api_Cell_70.l1 k t147 x0 (x0.length : Int) 0))
def api_Cell_70.l1 : Nat → List (S43) → List (List (S43)) → Int → Int → Option ((List (S43)))
  | 0, _, _, _, _ => none
  | k + 1, x6, x25, x26, x27 => if x27 < x26 then (if 0 ≤ x27 then (if x27 < (x25.length : Int) then (if x6.length + (rd_L6 x25 x27).length < 5864062014805 then (api_Cell_70.l1 k (x6 ++ (rd_L6 x25 x27)) x25 x26 (wrap64 (x27 + 1))) else (none)) else (none)) else (none)) else (some x6)
end
def api_Cell_70.f (k : Nat) (l0 : List (List (S43))) : Option ((List (S43))) := api_Cell_70.l0 k l0 0 l0 (l0.length : Int) 0
theorem api_Cell_70.mono_l : ∀ k, (∀ y0 y1 y2 y3 y4, LeO (api_Cell_70.l0 k y0 y1 y2 y3 y4) (api_Cell_70.l0 (k + 1) y0 y1 y2 y3 y4)) ∧ (∀ y0 y1 y2 y3, LeO (api_Cell_70.l1 k y0 y1 y2 y3) (api_Cell_70.l1 (k + 1) y0 y1 y2 y3))
  | 0 => ⟨fun _ _ _ _ _ r h => by simp [api_Cell_70.l0] at h, fun _ _ _ _ r h => by simp [api_Cell_70.l1] at h⟩
  | k + 1 => by
    obtain ⟨ih0, ih1⟩ := api_Cell_70.mono_l k
    refine ⟨?_, ?_⟩
    · intro y0 y1 y2 y3 y4
      unfold api_Cell_70.l0
      repeat' first
      | (with_reducible exact ih0 _ _ _ _ _)
      | (with_reducible exact ih1 _ _ _ _)
      | (with_reducible exact LeO.refl _)
      | (with_reducible exact LeO.none _)
      | (with_reducible refine LeO.ite ?_ ?_)
      | (with_reducible refine LeO.bind ?_ (fun _ => ?_))
      | exact ih0 _ _ _ _ _
      | exact ih1 _ _ _ _
      | exact LeO.none _
      | refine LeO.ite ?_ ?_
      | refine LeO.bind ?_ (fun _ => ?_)
    · intro y0 y1 y2 y3
      unfold api_Cell_70.l1
      repeat' first
      | (with_reducible exact ih0 _ _ _ _ _)
      | (with_reducible exact ih1 _ _ _ _)
      | (with_reducible exact LeO.refl _)
      | (with_reducible exact LeO.none _)
      | (with_reducible refine LeO.ite ?_ ?_)
      | (with_reducible refine LeO.bind ?_ (fun _ => ?_))
      | exact ih0 _ _ _ _ _
      | exact ih1 _ _ _ _
      | exact LeO.none _
      | refine LeO.ite ?_ ?_
      | refine LeO.bind ?_ (fun _ => ?_)
theorem api_Cell_70.mono : ∀ a0 k, LeO (api_Cell_70.f k a0) (api_Cell_70.f (k + 1) a0) := by
  intro a0 k
  obtain ⟨ih0, ih1⟩ := api_Cell_70.mono_l k
  unfold api_Cell_70.f
  repeat' first
      | (with_reducible exact ih0 _ _ _ _ _)
      | (with_reducible exact ih1 _ _ _ _)
      | (with_reducible exact LeO.refl _)
      | (with_reducible exact LeO.none _)
      | (with_reducible refine LeO.ite ?_ ?_)
      | (with_reducible refine LeO.bind ?_ (fun _ => ?_))
      | exact ih0 _ _ _ _ _
      | exact ih1 _ _ _ _
      | exact LeO.none _
      | refine LeO.ite ?_ ?_
      | refine LeO.bind ?_ (fun _ => ?_)
set_option maxHeartbeats 8000000 in
set_option maxRecDepth 100000 in
theorem api_Cell_70.calls (k : Nat) (A0 : Option Addr) (c0 : Nat) (l0 : List (List (S43))) (r : List (S43)) (w : World) (hr0 : Kd.C (Kd.slice 43 k43) w A0 l0.length l0) (hc0 : l0.length ≤ c0) (h : api_Cell_70.f k l0 = some r) :
    Calls Try.prog 70 #[.slice A0 l0.length c0] w fun e w' => ∃ v0_ : Value, e = .returned (v0_) ∧ Kd.R k43 43 w' w.heap.size (fun _ => True) v0_ r ∧ Below w.heap.size w w' := by
  have HR0 := zM hr0
  have HC0 := zM hc0
  clear hr0 hc0
  have HB := zM (Below.refl w.heap.size w)
  have H : (api_Cell_70.l0 k l0 0 l0 (l0.length : Int) 0) = some r := h
  clear h
  have H' := zM H
  clear H
  go_enter Try.func70, Try.ntmps70
  go_wp2
  go_loopg [3, 11] k (fun kq v3 v11 w' => ∃ (x3_1 : Int) (x11_1 : Int), v3 = .int .i64 x3_1 ∧ v11 = .int .i64 x11_1 ∧ Aside0 (api_Cell_70.l0 kq l0 x3_1 l0 (l0.length : Int) x11_1 = some r) ∧ Aside0 (kq ≤ k) ∧ Aside0 (Below w.heap.size w w'))
  case atStart => exact ⟨(0), (0), (by first | rfl | (simp; done) | (simp [*]; done) | (simp; grind)), (by first | rfl | (simp; done) | (simp [*]; done) | (simp; grind)), H', ⟨Nat.le_refl _⟩, ⟨bel_⟩⟩
  case round =>
   clear H'
   obtain ⟨x3_1, x11_1, rfl, rfl, HA, HK1, HB⟩ := hrel
   cases gk with
   | zero => exact absurd HA.out (by simp [api_Cell_70.l0])
   | succ k1 =>
    have H := HA.out
    clear HA
    simp only [api_Cell_70.l0] at H
    by_cases c2 : x11_1 < (l0.length : Int)
    · rw [if_pos c2] at H
      have c2b0 : decide (x11_1 < (l0.length : Int)) = true := decide_eq_true c2
      clear c2
      by_cases c3 : 0 ≤ x11_1
      rotate_left
      · rw [if_neg c3] at H
        exact absurd H (by simp)
      rw [if_pos c3] at H
      have c3b0 : decide (0 ≤ x11_1) = true := decide_eq_true c3
      clear c3
      by_cases c4 : x11_1 < (l0.length : Int)
      rotate_left
      · rw [if_neg c4] at H
        exact absurd H (by simp)
      rw [if_pos c4] at H
      have c4b0 : decide (x11_1 < (l0.length : Int)) = true := decide_eq_true c4
      clear c4
      by_cases c5 : (wrap64 (x3_1 + ((rd_L6 l0 x11_1).length : Int))) < 0
      · rw [if_pos c5] at H
        exact absurd H (by simp)
      rw [if_neg c5] at H
      have c5b0 : decide ((wrap64 (x3_1 + ((rd_L6 l0 x11_1).length : Int))) < 0) = false := decide_eq_false c5
      clear c5
      have H' := zM H
      clear H
      have p146 : 0 ≤ (x11_1 : Int) := of_decide_eq_true (by first | (with_reducible assumption) | assumption)
      have q146 : x11_1 < (l0.length : Int) := of_decide_eq_true (by first | (with_reducible assumption) | assumption)
      obtain ⟨ad146, A146_0, c146_0, e146, hx146_0, hl146_0, hi146_0⟩ := at_L6 HR0.out x11_1 p146 q146
      cases e146
      replace hx146_0 := (HB.out.cell (World.block_lt_of_cell? w _ hx146_0)).trans hx146_0
      have HR146_0 := zM hi146_0
      have HC146_0 := zM hl146_0
      clear hi146_0 hl146_0
      replace p146 := eq_true p146
      replace q146 := eq_true q146
      go_wp2
      go_roundg k1
      case measure => have := HK1.out; omega
      case rel => exact ⟨(wrap64 (x3_1 + ((rd_L6 l0 x11_1).length : Int))), (wrap64 (x11_1 + 1)), (by first | rfl | (simp; done) | (simp [*]; done) | (simp; grind)), (by first | rfl | (simp; done) | (simp [*]; done) | (simp; grind)), H', ⟨by have := HK1.out; omega⟩, ⟨bel_⟩⟩
    rw [if_neg c2] at H
    have c2b0 : decide (x11_1 < (l0.length : Int)) = false := decide_eq_false c2
    clear c2
    replace H := Option.bind_eq_some_iff.mp H
    obtain ⟨t147, A60, H⟩ := H
    replace H : (api_Cell_70.l1 k1 t147 l0 (l0.length : Int) 0) = some r := H
    have A6 := zM A60
    clear A60
    have H' := zM H
    clear H
    go_wp2_with (first | ((with_reducible refine gate_callee (f := 89) rfl ?_); refine goL_ (some 24) Try.func89 #[.slice none 0 0, .int .i64 x3_1] ?_; (with_reducible refine (api_Cell_89.calls  x3_1 t147 _ A6.out).mono ?_); rintro e w7 ⟨v148, rfl, ho0, hb⟩; refine ⟨_, rfl, ?_⟩; have HO149 := zM (Kd.R_lower ho0 (below_size bel_)); replace HB := zM (zB bel_ hb); (try clear hb); (try clear hb2); (try clear hk); (try clear hi); (try clear ho0)))
    go_loopg [6, 27] k1 (fun kq v6 v27 w' => ∃ (x6_2 : List (S43)) (x27_2 : Int), v27 = .int .i64 x27_2 ∧ Aside0 (api_Cell_70.l1 kq x6_2 l0 (l0.length : Int) x27_2 = some r) ∧ Aside0 (kq ≤ k1) ∧ Aside0 (Kd.R k43 43 w' w.heap.size (fun _ => True) v6 x6_2) ∧ Aside0 (Below w.heap.size w w'))
    case atStart => exact ⟨(t147), (0), (by first | rfl | (simp; done) | (simp [*]; done) | (simp; grind)), H', ⟨Nat.le_refl _⟩, ⟨by (with_reducible repeat (first | apply Kd.R_alloc | apply Kd.R_drewN | apply Kd.R_drew)); exact HO149.out⟩, ⟨bel_⟩⟩
    case round =>
     clear H'
     try clear c1
     try clear p1
     try clear q1
     try clear hx1
     try clear c2
     try clear c2b0
     try clear p2
     try clear c3
     try clear c3b0
     try clear c4
     try clear c4b0
     try clear c5
     try clear c5b0
     try clear p6
     try clear c7
     try clear hx146_0
     try clear p146
     try clear q146
     obtain ⟨x6_2, x27_2, rfl, HA, HK2, HO_6, HB⟩ := hrel
     cases gk with
     | zero => exact absurd HA.out (by simp [api_Cell_70.l1])
     | succ k2 =>
      have H := HA.out
      clear HA
      simp only [api_Cell_70.l1] at H
      by_cases c8 : x27_2 < (l0.length : Int)
      rotate_left
      · rw [if_neg c8] at H
        have c8b0 : decide (x27_2 < (l0.length : Int)) = false := decide_eq_false c8
        clear c8
        obtain rfl := Option.some.inj H
        go_wp2
        go_ret
        exact ⟨_, by first | rfl | (simp [errW_none, errW_some] <;> rfl) | (simp [*, errW_none, errW_some] <;> rfl), by (with_reducible repeat (first | apply Kd.R_alloc | apply Kd.R_drewN | apply Kd.R_drew)); exact HO_6.out, bel_⟩
      rw [if_pos c8] at H
      have c8b0 : decide (x27_2 < (l0.length : Int)) = true := decide_eq_true c8
      clear c8
      by_cases c9 : 0 ≤ x27_2
      rotate_left
      · rw [if_neg c9] at H
        exact absurd H (by simp)
      rw [if_pos c9] at H
      have c9b0 : decide (0 ≤ x27_2) = true := decide_eq_true c9
      clear c9
      by_cases c10 : x27_2 < (l0.length : Int)
      rotate_left
      · rw [if_neg c10] at H
        exact absurd H (by simp)
      rw [if_pos c10] at H
      have c10b0 : decide (x27_2 < (l0.length : Int)) = true := decide_eq_true c10
      clear c10
      by_cases c11 : x6_2.length + (rd_L6 l0 x27_2).length < 5864062014805
      rotate_left
      · rw [if_neg c11] at H
        exact absurd H (by simp)
      rw [if_pos c11] at H
      have LMc11 := zM c11
      clear c11
      obtain ⟨y151, hy151⟩ : ∃ y_ : List (S43), y_ = (x6_2 ++ (rd_L6 l0 x27_2)) := ⟨_, rfl⟩
      replace H : (api_Cell_70.l1 k2 y151 l0 (l0.length : Int) (wrap64 (x27_2 + 1))) = some r := by first | (rw [hy151]; with_reducible exact H) | (have H2_ := (Option.bind_some _ _).symm.trans H; rw [hy151]; with_reducible exact H2_) | (have H2_ := (Option.bind_some _ _).symm.trans H; with_reducible exact H2_) | with_reducible exact H | (rw [hy151]; exact H) | exact H
      have Ny151 := zM hy151
      clear hy151
      have H' := zM H
      clear H
      have p150 : 0 ≤ (x27_2 : Int) := of_decide_eq_true (by first | (with_reducible assumption) | assumption)
      have q150 : x27_2 < (l0.length : Int) := of_decide_eq_true (by first | (with_reducible assumption) | assumption)
      obtain ⟨ad150, A150_0, c150_0, e150, hx150_0, hl150_0, hi150_0⟩ := at_L6 HR0.out x27_2 p150 q150
      cases e150
      replace hx150_0 := (HB.out.cell (World.block_lt_of_cell? w _ hx150_0)).trans hx150_0
      have HR150_0 := zM hi150_0
      have HC150_0 := zM hl150_0
      clear hi150_0 hl150_0
      replace p150 := eq_true p150
      replace q150 := eq_true q150
      go_wp2_with (first | ((with_reducible refine gate_builtin (b := .append) (xs := #[.tmp 31, .tmp 32]) rfl ?_); at_builtin; refine Kd.R_append_rows k43 (w0 := w) w.heap.size rfl (.tmp 31) (.tmp 32) 24 43 (.agg #[(.int .i64 0), (.int .i64 0), (.int .i64 0)]) 24 rfl Try.underlying24 info43 rfl (by decide) (by omega) u6 x6_2 (rd_L6 l0 x27_2) _ _ _ (fun _ => True) (fun _ => False) rfl rfl ?aO ?aR (fun _ _ h => h) (fun _ h => h.elim) ?aF ?aB ?aS ?aL ?_; (case aR => repeat (first | exact (Kd.C_below HR150_0.out HB.out) | (with_reducible refine Kd.C_alloc ?_ _) | (with_reducible refine Kd.C_drewN ?_ _) | (with_reducible refine Kd.C_drew ?_))); (case aB => exact bel_); (case aF => exact (fun _ _ => trivial)); (case aO => exact (rl_ HO_6)); (case aS => exact (below_size bel_)); (case aL => have := LMc11.out; omega); intro v152 w12 ho hb hg hat; rw [← Ny151.out] at ho; replace HB := zM (hb); have HO153 := zM (ho); clear HO_6; clear ho hb hg hat))
      go_roundg k2
      case measure => have := HK1.out; have := HK2.out; omega
      case rel => exact ⟨(y151), (wrap64 (x27_2 + 1)), (by first | rfl | (simp; done) | (simp [*]; done) | (simp; grind)), H', ⟨by have := HK1.out; have := HK2.out; omega⟩, ⟨by (with_reducible repeat (first | apply Kd.R_alloc | apply Kd.R_drewN | apply Kd.R_drew)); exact HO153.out⟩, ⟨bel_⟩⟩
/-! ### cells_Of_1: function 102 -/
def cells_Of_1.f (a0_0 : Int) (a0_1 : Int) (a0_2 : Int) (a1_0 : Int) : Option (Bool) := some (a0_0 == a1_0)
set_option maxHeartbeats 8000000 in
set_option maxRecDepth 100000 in
theorem cells_Of_1.calls (a0_0 : Int) (a0_1 : Int) (a0_2 : Int) (g1_0 : Nat) (a1_0 : Int) (r : Bool) (w : World) (hb1_0 : w.heap[g1_0]? = some (.cells #[.int .i64 a1_0] 3 (0, 0))) (h : cells_Of_1.f a0_0 a0_1 a0_2 a1_0 = some r) :
    Calls Try.prog 102 #[.agg #[.int .i64 a0_0, .int .i64 a0_1, .int .i64 a0_2], .pointer (some ⟨g1_0, 0, none⟩)] w fun e w' => e = .returned (.bool r) ∧ Below w.heap.size w w' := by
  have hu43 := Try.underlying43
  have BK50 := zM hb1_0
  clear hb1_0
  have HB := zM (Below.refl w.heap.size w)
  have H : (some (a0_0 == a1_0)) = some r := h
  clear h
  obtain rfl := Option.some.inj H
  go_enter Try.func102, Try.ntmps102
  go_wp2_with (first | ((with_reducible refine gate_dst (N := 2) rfl ?_); refine box_event ?hg (N := 2) ?hd (cs := #[.int .i64 a0_0, .int .i64 a0_1, .int .i64 a0_2]) (t := 43) ?hr ?_; (case hd => rfl); (case hg => rfl); (case hr => first | (go_simp; done) | (go_simp; rfl)); intro gb154 hg w3 hbox hb; have BK154 := zM (hbox); have GW154 := zM (bs_ hg); have GE154 := zM (bs_ hg); replace HB := zM (zB bel_ hb); have NB50_154 := zM ((by rw [hg]; exact Nat.ne_of_lt (blk_lt (g := g1_0) (o := .cells #[.int .i64 a1_0] 3 (0, 0)) blk_) : g1_0 ≠ gb154)); have NB154_50 := zM ((by rw [hg]; exact Nat.ne_of_gt (blk_lt (g := g1_0) (o := .cells #[.int .i64 a1_0] 3 (0, 0)) blk_) : gb154 ≠ g1_0)); replace BK50 := zM (blk_below (g := g1_0) (o := .cells #[.int .i64 a1_0] 3 (0, 0)) blk_ hb); clear hb hbox hg; have hnb4 := NB154_50.out; have hnc4 := NB50_154.out; have hcz5_0 : w3.cell? ⟨gb154, 0, none⟩ = some (.int .i64 a0_0) := (zL BK154.out 0).trans rfl; have hcz5_1 : w3.cell? ⟨gb154, 1, none⟩ = some (.int .i64 a0_1) := (zL BK154.out 1).trans rfl; have hcz5_2 : w3.cell? ⟨gb154, 2, none⟩ = some (.int .i64 a0_2) := (zL BK154.out 2).trans rfl; have hfz5_0 := zF BK154.out 0; have hfz5_1 := zF BK154.out 1; have hfz5_2 := zF BK154.out 2; have hcz6_0 : w3.cell? ⟨g1_0, 0, none⟩ = some (.int .i64 a1_0) := (zL BK50.out 0).trans rfl; have hfz6_0 := zF BK50.out 0))
  go_ret
  exact ⟨by first | rfl | (simp [errW_none, errW_some] <;> rfl) | (simp [*, errW_none, errW_some] <;> rfl), bel_⟩
/-! ### api_Cell_102_3: function 101 -/
def api_Cell_102_3.l0 : Nat → List (S43) → Int → Int → Int → Option (Int)
  | 0, _, _, _, _ => none
  | k + 1, x0, x7, x8, x51000 => if x8 < x7 then (if 0 ≤ x8 then (if x8 < (x0.length : Int) then ((cells_Of_1.f ((rd_T43 x0 x8).f0) ((rd_T43 x0 x8).f1.f0) ((rd_T43 x0 x8).f1.f1) x51000).bind fun t156 => (if t156 = true then (some x8) else (api_Cell_102_3.l0 k x0 x7 (wrap64 (x8 + 1)) x51000))) else (none)) else (none)) else (some (-1))
def api_Cell_102_3.f (k : Nat) (l0 : List (S43)) (a1_0 : Int) : Option (Int) := api_Cell_102_3.l0 k l0 (l0.length : Int) 0 a1_0
theorem api_Cell_102_3.mono_l : ∀ k, (∀ y0 y1 y2 y3, LeO (api_Cell_102_3.l0 k y0 y1 y2 y3) (api_Cell_102_3.l0 (k + 1) y0 y1 y2 y3))
  | 0 => fun _ _ _ _ r h => by simp [api_Cell_102_3.l0] at h
  | k + 1 => by
    have ih0 := api_Cell_102_3.mono_l k
    · intro y0 y1 y2 y3
      unfold api_Cell_102_3.l0
      repeat' first
      | (with_reducible exact ih0 _ _ _ _)
      | (with_reducible exact LeO.refl _)
      | (with_reducible exact LeO.none _)
      | (with_reducible refine LeO.ite ?_ ?_)
      | (with_reducible refine LeO.bind ?_ (fun _ => ?_))
      | exact ih0 _ _ _ _
      | exact LeO.none _
      | refine LeO.ite ?_ ?_
      | refine LeO.bind ?_ (fun _ => ?_)
theorem api_Cell_102_3.mono : ∀ a0 a1 k, LeO (api_Cell_102_3.f k a0 a1) (api_Cell_102_3.f (k + 1) a0 a1) := by
  intro a0 a1 k
  have ih0 := api_Cell_102_3.mono_l k
  unfold api_Cell_102_3.f
  repeat' first
      | (with_reducible exact ih0 _ _ _ _)
      | (with_reducible exact LeO.refl _)
      | (with_reducible exact LeO.none _)
      | (with_reducible refine LeO.ite ?_ ?_)
      | (with_reducible refine LeO.bind ?_ (fun _ => ?_))
      | exact ih0 _ _ _ _
      | exact LeO.none _
      | refine LeO.ite ?_ ?_
      | refine LeO.bind ?_ (fun _ => ?_)
set_option maxHeartbeats 8000000 in
set_option maxRecDepth 100000 in
theorem api_Cell_102_3.calls (k : Nat) (A0 : Option Addr) (c0 : Nat) (l0 : List (S43)) (g1_0 : Nat) (a1_0 : Int) (r : Int) (w : World) (hr0 : Kd.C k43 w A0 l0.length l0) (hc0 : l0.length ≤ c0) (hb1_0 : w.heap[g1_0]? = some (.cells #[.int .i64 a1_0] 3 (0, 0))) (h : api_Cell_102_3.f k l0 a1_0 = some r) :
    Calls Try.prog 101 #[.slice A0 l0.length c0, .func (.func 102) #[] #[.pointer (some ⟨g1_0, 0, none⟩)]] w fun e w' => e = .returned (.int .i64 r) ∧ Below w.heap.size w w' := by
  have hu43 := Try.underlying43
  have HR0 := zM hr0
  have HC0 := zM hc0
  clear hr0 hc0
  have BK50 := zM hb1_0
  clear hb1_0
  have HB := zM (Below.refl w.heap.size w)
  have H : (api_Cell_102_3.l0 k l0 (l0.length : Int) 0 a1_0) = some r := h
  clear h
  have H' := zM H
  clear H
  go_enter Try.func101, Try.ntmps101
  go_wp2
  go_loopg [8] k (fun kq v8 w' => ∃ (x8_1 : Int), v8 = .int .i64 x8_1 ∧ Aside0 (api_Cell_102_3.l0 kq l0 (l0.length : Int) x8_1 a1_0 = some r) ∧ Aside0 (kq ≤ k) ∧ Aside0 (w'.heap[g1_0]? = some (.cells #[.int .i64 a1_0] 3 (0, 0))) ∧ Aside0 (Below w.heap.size w w'))
  case atStart => exact ⟨(0), (by first | rfl | (simp; done) | (simp [*]; done) | (simp; grind)), H', ⟨Nat.le_refl _⟩, ⟨blf_⟩, ⟨bel_⟩⟩
  case round =>
   clear H'
   try clear p2
   obtain ⟨x8_1, rfl, HA, HK1, BK50, HB⟩ := hrel
   cases gk with
   | zero => exact absurd HA.out (by simp [api_Cell_102_3.l0])
   | succ k1 =>
    have H := HA.out
    clear HA
    simp only [api_Cell_102_3.l0] at H
    by_cases c3 : x8_1 < (l0.length : Int)
    rotate_left
    · rw [if_neg c3] at H
      have c3b0 : decide (x8_1 < (l0.length : Int)) = false := decide_eq_false c3
      clear c3
      obtain rfl := Option.some.inj H
      go_wp2
      go_ret
      exact ⟨by first | rfl | (simp [errW_none, errW_some] <;> rfl) | (simp [*, errW_none, errW_some] <;> rfl), bel_⟩
    rw [if_pos c3] at H
    have c3b0 : decide (x8_1 < (l0.length : Int)) = true := decide_eq_true c3
    clear c3
    by_cases c4 : 0 ≤ x8_1
    rotate_left
    · rw [if_neg c4] at H
      exact absurd H (by simp)
    rw [if_pos c4] at H
    have c4b0 : decide (0 ≤ x8_1) = true := decide_eq_true c4
    clear c4
    by_cases c5 : x8_1 < (l0.length : Int)
    rotate_left
    · rw [if_neg c5] at H
      exact absurd H (by simp)
    rw [if_pos c5] at H
    have c5b0 : decide (x8_1 < (l0.length : Int)) = true := decide_eq_true c5
    clear c5
    replace H := Option.bind_eq_some_iff.mp H
    obtain ⟨t156, A60, H⟩ := H
    replace H : (if t156 = true then (some x8_1) else (api_Cell_102_3.l0 k1 l0 (l0.length : Int) (wrap64 (x8_1 + 1)) a1_0)) = some r := H
    have A6 := zM A60
    clear A60
    by_cases c7 : t156 = true
    · subst c7
      have H1 : (some x8_1) = some r := by rw [if_pos rfl] at H; exact H
      clear H
      have H := H1
      clear H1
      obtain rfl := Option.some.inj H
      have p155 : 0 ≤ (x8_1 : Int) := of_decide_eq_true (by first | (with_reducible assumption) | assumption)
      have q155 : x8_1 < (l0.length : Int) := of_decide_eq_true (by first | (with_reducible assumption) | assumption)
      obtain ⟨ad155, e155, hx155_0, hx155_1, hx155_2⟩ := at_T43 HR0.out x8_1 p155 q155
      cases e155
      replace hx155_0 := (HB.out.cell (World.block_lt_of_cell? w _ hx155_0)).trans hx155_0
      replace hx155_1 := (HB.out.cell (World.block_lt_of_cell? w _ hx155_1)).trans hx155_1
      replace hx155_2 := (HB.out.cell (World.block_lt_of_cell? w _ hx155_2)).trans hx155_2
      replace p155 := eq_true p155
      replace q155 := eq_true q155
      go_wp2_with (first | (go_at_call 102; (with_reducible refine (cells_Of_1.calls ((rd_T43 l0 x8_1).f0) ((rd_T43 l0 x8_1).f1.f0) ((rd_T43 l0 x8_1).f1.f1) g1_0 a1_0 true _ ?side1 A6.out).mono ?_); (case side1 => exact blf_); rintro e w8 ⟨rfl, hb⟩; replace BK50 := zM (blk_below (g := g1_0) (o := .cells #[.int .i64 a1_0] 3 (0, 0)) blk_ hb); replace HB := zM (zB bel_ hb); (try clear hb); (try clear hb2); (try clear hk); (try clear hi)))
      go_ret
      exact ⟨by first | rfl | (simp [errW_none, errW_some] <;> rfl) | (simp [*, errW_none, errW_some] <;> rfl), bel_⟩
    replace c7 := Bool.eq_false_iff.mpr c7
    subst c7
    have H1 : (api_Cell_102_3.l0 k1 l0 (l0.length : Int) (wrap64 (x8_1 + 1)) a1_0) = some r := by rw [if_neg (show ¬ (false = true) by decide)] at H; exact H
    clear H
    have H := H1
    clear H1
    have H' := zM H
    clear H
    have p155 : 0 ≤ (x8_1 : Int) := of_decide_eq_true (by first | (with_reducible assumption) | assumption)
    have q155 : x8_1 < (l0.length : Int) := of_decide_eq_true (by first | (with_reducible assumption) | assumption)
    obtain ⟨ad155, e155, hx155_0, hx155_1, hx155_2⟩ := at_T43 HR0.out x8_1 p155 q155
    cases e155
    replace hx155_0 := (HB.out.cell (World.block_lt_of_cell? w _ hx155_0)).trans hx155_0
    replace hx155_1 := (HB.out.cell (World.block_lt_of_cell? w _ hx155_1)).trans hx155_1
    replace hx155_2 := (HB.out.cell (World.block_lt_of_cell? w _ hx155_2)).trans hx155_2
    replace p155 := eq_true p155
    replace q155 := eq_true q155
    go_wp2_with (first | (go_at_call 102; (with_reducible refine (cells_Of_1.calls ((rd_T43 l0 x8_1).f0) ((rd_T43 l0 x8_1).f1.f0) ((rd_T43 l0 x8_1).f1.f1) g1_0 a1_0 false _ ?side1 A6.out).mono ?_); (case side1 => exact blf_); rintro e w9 ⟨rfl, hb⟩; replace BK50 := zM (blk_below (g := g1_0) (o := .cells #[.int .i64 a1_0] 3 (0, 0)) blk_ hb); replace HB := zM (zB bel_ hb); (try clear hb); (try clear hb2); (try clear hk); (try clear hi)))
    go_roundg k1
    case measure => have := HK1.out; omega
    case rel => exact ⟨(wrap64 (x8_1 + 1)), (by first | rfl | (simp; done) | (simp [*]; done) | (simp; grind)), H', ⟨by have := HK1.out; omega⟩, ⟨blf_⟩, ⟨bel_⟩⟩
/-! ### cells_Of: function 92 -/
def cells_Of.f (k : Nat) (l0 : List (S43)) (a1 : Int) : Option (Int × Int × Bool) := (api_Cell_102_3.f k l0 a1).bind fun t159 => (if t159 < 0 then (some (0, 0, false)) else (if 0 ≤ t159 then (if t159 < (l0.length : Int) then (some ((rd_T43 l0 t159).f1.f0, (rd_T43 l0 t159).f1.f1, true)) else (none)) else (none)))
theorem cells_Of.mono : ∀ a0 a1 k, LeO (cells_Of.f k a0 a1) (cells_Of.f (k + 1) a0 a1) := by
  intro a0 a1 k
  unfold cells_Of.f
  repeat' first
      | (with_reducible exact api_Cell_102_3.mono _ _ _)
      | (with_reducible exact LeO.refl _)
      | (with_reducible exact LeO.none _)
      | (with_reducible refine LeO.ite ?_ ?_)
      | (with_reducible refine LeO.bind ?_ (fun _ => ?_))
      | exact api_Cell_102_3.mono _ _ _
      | exact LeO.none _
      | refine LeO.ite ?_ ?_
      | refine LeO.bind ?_ (fun _ => ?_)
set_option maxHeartbeats 8000000 in
set_option maxRecDepth 100000 in
theorem cells_Of.calls (k : Nat) (A0 : Option Addr) (c0 : Nat) (l0 : List (S43)) (a1 : Int) (r1 : Int) (r2 : Int) (r3 : Bool) (w : World) (hr0 : Kd.C k43 w A0 l0.length l0) (hc0 : l0.length ≤ c0) (h : cells_Of.f k l0 a1 = some (r1, r2, r3)) :
    Calls Try.prog 92 #[.slice A0 l0.length c0, .int .i64 a1] w fun e w' => e = .returned (.tuple #[.agg #[.int .i64 r1, .int .i64 r2], .bool r3]) ∧ Below w.heap.size w w' := by
  have hu23 := Try.underlying23
  have HR0 := zM hr0
  have HC0 := zM hc0
  clear hr0 hc0
  have HB := zM (Below.refl w.heap.size w)
  have H : ((api_Cell_102_3.f k l0 a1).bind fun t159 => (if t159 < 0 then (some (0, 0, false)) else (if 0 ≤ t159 then (if t159 < (l0.length : Int) then (some ((rd_T43 l0 t159).f1.f0, (rd_T43 l0 t159).f1.f1, true)) else (none)) else (none)))) = some (r1, r2, r3) := h
  clear h
  replace H := Option.bind_eq_some_iff.mp H
  obtain ⟨t159, A30, H⟩ := H
  replace H : (if t159 < 0 then (some (0, 0, false)) else (if 0 ≤ t159 then (if t159 < (l0.length : Int) then (some ((rd_T43 l0 t159).f1.f0, (rd_T43 l0 t159).f1.f1, true)) else (none)) else (none))) = some (r1, r2, r3) := H
  have A3 := zM A30
  clear A30
  by_cases c4 : t159 < 0
  · rw [if_pos c4] at H
    have c4b0 : decide (t159 < 0) = true := decide_eq_true c4
    clear c4
    simp only [Option.some.injEq, Prod.mk.injEq] at H
    obtain ⟨rfl, rfl, rfl⟩ := H
    go_enter Try.func92, Try.ntmps92
    go_wp2_with (first | ((with_reducible refine gate_dst (N := 3) rfl ?_); refine box_event ?hg (N := 3) ?hd (cs := #[.int .i64 a1]) (t := 3) ?hr ?_; (case hd => rfl); (case hg => rfl); (case hr => first | (go_simp; done) | (go_simp; rfl)); intro gb157 hg w5 hbox hb; have BK157 := zM (hbox); have GW157 := zM (bs_ hg); have GE157 := zM (bs_ hg); replace HB := zM (zB bel_ hb); clear hb hbox hg) | ((with_reducible refine gate_dst (N := 4) rfl ?_); refine box_event ?hg (N := 4) ?hd (cs := #[.int .i64 0, .int .i64 0]) (t := 23) ?hr ?_; (case hd => rfl); (case hg => rfl); (case hr => first | (go_simp; done) | (go_simp; rfl)); intro gb158 hg w6 hbox hb; have BK158 := zM (hbox); have GW158 := zM (bs_ hg); have GE158 := zM (bs_ hg); replace HB := zM (zB bel_ hb); have NB157_158 := zM (nl_ BK157 hg); have NB158_157 := zM (ng_ BK157 hg); replace BK157 := zM (bb_ BK157 hb); clear hb hbox hg) | ((with_reducible refine gate_callee (f := 101) rfl ?_); refine goL_ (some 9) Try.func101 #[.slice A0 l0.length c0, .func (.func 102) #[] #[.pointer (some ⟨gb157, 0, none⟩)]] ?_; (with_reducible refine (api_Cell_102_3.calls k _ _ l0 gb157 a1 t159 _ ?side1 ?side2 ?side3 A3.out).mono ?_); (case side1 => repeat (first | exact (Kd.C_below HR0.out HB.out) | (with_reducible refine Kd.C_alloc ?_ _) | (with_reducible refine Kd.C_drewN ?_ _) | (with_reducible refine Kd.C_drew ?_))); (case side2 => exact HC0.out); (case side3 => exact blf_); rintro e w7 ⟨rfl, hb⟩; refine ⟨_, rfl, ?_⟩; replace BK157 := zM (bb_ BK157 hb); replace BK158 := zM (bb_ BK158 hb); replace HB := zM (zB bel_ hb); (try clear hb); (try clear hb2); (try clear hk); (try clear hi); have hnb8 := NB158_157.out; have hnc8 := NB157_158.out; have hcz9_0 : w7.cell? ⟨gb158, 0, none⟩ = some (.int .i64 0) := (zL BK158.out 0).trans rfl; have hcz9_1 : w7.cell? ⟨gb158, 1, none⟩ = some (.int .i64 0) := (zL BK158.out 1).trans rfl; have hfz9_0 := zF BK158.out 0; have hfz9_1 := zF BK158.out 1))
    refine bodyPost_ret (results_ct rfl _ _ gb158 23 #[.int .i64 0, .int .i64 0] (0, 0) _ rfl (by (with_reducible repeat (first | refine zN ?_ _ | refine zD ?_ | refine zA ?_ _)); refine blk_put (cs := #[.int .i64 0, .int .i64 0]) ?_ 1 _ rfl; (with_reducible repeat (first | refine zN ?_ _ | refine zD ?_ | refine zA ?_ _)); refine blk_put (cs := #[.int .i64 0, .int .i64 0]) ?_ 0 _ rfl; (with_reducible repeat (first | refine zN ?_ _ | refine zD ?_ | refine zA ?_ _)); exact BK158.out) Try.underlying23 rfl (by kernel_rfl)) rfl ?_
    exact ⟨by first | rfl | (simp [errW_none, errW_some] <;> rfl) | (simp [*, errW_none, errW_some] <;> rfl), bel_⟩
  rw [if_neg c4] at H
  have c4b0 : decide (t159 < 0) = false := decide_eq_false c4
  clear c4
  by_cases c10 : 0 ≤ t159
  rotate_left
  · rw [if_neg c10] at H
    exact absurd H (by simp)
  rw [if_pos c10] at H
  have c10b0 : decide (0 ≤ t159) = true := decide_eq_true c10
  clear c10
  by_cases c11 : t159 < (l0.length : Int)
  rotate_left
  · rw [if_neg c11] at H
    exact absurd H (by simp)
  rw [if_pos c11] at H
  have c11b0 : decide (t159 < (l0.length : Int)) = true := decide_eq_true c11
  clear c11
  simp only [Option.some.injEq, Prod.mk.injEq] at H
  obtain ⟨rfl, rfl, rfl⟩ := H
  go_enter Try.func92, Try.ntmps92
  go_wp2_with (first | ((with_reducible refine gate_dst (N := 3) rfl ?_); refine box_event ?hg (N := 3) ?hd (cs := #[.int .i64 a1]) (t := 3) ?hr ?_; (case hd => rfl); (case hg => rfl); (case hr => first | (go_simp; done) | (go_simp; rfl)); intro gb157 hg w12 hbox hb; have BK157 := zM (hbox); have GW157 := zM (bs_ hg); have GE157 := zM (bs_ hg); replace HB := zM (zB bel_ hb); clear hb hbox hg) | ((with_reducible refine gate_dst (N := 4) rfl ?_); refine box_event ?hg (N := 4) ?hd (cs := #[.int .i64 0, .int .i64 0]) (t := 23) ?hr ?_; (case hd => rfl); (case hg => rfl); (case hr => first | (go_simp; done) | (go_simp; rfl)); intro gb158 hg w13 hbox hb; have BK158 := zM (hbox); have GW158 := zM (bs_ hg); have GE158 := zM (bs_ hg); replace HB := zM (zB bel_ hb); have NB157_158 := zM (nl_ BK157 hg); have NB158_157 := zM (ng_ BK157 hg); replace BK157 := zM (bb_ BK157 hb); clear hb hbox hg) | ((with_reducible refine gate_callee (f := 101) rfl ?_); refine goL_ (some 9) Try.func101 #[.slice A0 l0.length c0, .func (.func 102) #[] #[.pointer (some ⟨gb157, 0, none⟩)]] ?_; (with_reducible refine (api_Cell_102_3.calls k _ _ l0 gb157 a1 t159 _ ?side1 ?side2 ?side3 A3.out).mono ?_); (case side1 => repeat (first | exact (Kd.C_below HR0.out HB.out) | (with_reducible refine Kd.C_alloc ?_ _) | (with_reducible refine Kd.C_drewN ?_ _) | (with_reducible refine Kd.C_drew ?_))); (case side2 => exact HC0.out); (case side3 => exact blf_); rintro e w14 ⟨rfl, hb⟩; refine ⟨_, rfl, ?_⟩; replace BK157 := zM (bb_ BK157 hb); replace BK158 := zM (bb_ BK158 hb); replace HB := zM (zB bel_ hb); (try clear hb); (try clear hb2); (try clear hk); (try clear hi); have p160 : 0 ≤ (t159 : Int) := of_decide_eq_true (by first | (with_reducible assumption) | assumption); have q160 : t159 < (l0.length : Int) := of_decide_eq_true (by first | (with_reducible assumption) | assumption); obtain ⟨ad160, e160, hx160_0, hx160_1, hx160_2⟩ := at_T43 HR0.out t159 p160 q160; cases e160; replace hx160_0 := (HB.out.cell (World.block_lt_of_cell? w _ hx160_0)).trans hx160_0; replace hx160_1 := (HB.out.cell (World.block_lt_of_cell? w _ hx160_1)).trans hx160_1; replace hx160_2 := (HB.out.cell (World.block_lt_of_cell? w _ hx160_2)).trans hx160_2; replace p160 := eq_true p160; replace q160 := eq_true q160; have hnb15 := NB158_157.out; have hnc15 := NB157_158.out; have hcz16_0 : w14.cell? ⟨gb158, 0, none⟩ = some (.int .i64 0) := (zL BK158.out 0).trans rfl; have hcz16_1 : w14.cell? ⟨gb158, 1, none⟩ = some (.int .i64 0) := (zL BK158.out 1).trans rfl; have hfz16_0 := zF BK158.out 0; have hfz16_1 := zF BK158.out 1))
  refine bodyPost_ret (results_ct rfl _ _ gb158 23 #[.int .i64 ((rd_T43 l0 t159).f1.f0), .int .i64 ((rd_T43 l0 t159).f1.f1)] (0, 0) _ rfl (by (with_reducible repeat (first | refine zN ?_ _ | refine zD ?_ | refine zA ?_ _)); refine blk_put (cs := #[.int .i64 ((rd_T43 l0 t159).f1.f0), .int .i64 0]) ?_ 1 _ rfl; (with_reducible repeat (first | refine zN ?_ _ | refine zD ?_ | refine zA ?_ _)); refine blk_put (cs := #[.int .i64 0, .int .i64 0]) ?_ 0 _ rfl; (with_reducible repeat (first | refine zN ?_ _ | refine zD ?_ | refine zA ?_ _)); exact BK158.out) Try.underlying23 rfl (by kernel_rfl)) rfl ?_
  exact ⟨by first | rfl | (simp [errW_none, errW_some] <;> rfl) | (simp [*, errW_none, errW_some] <;> rfl), bel_⟩
/-! ### cells_News_1: function 91 -/
def cells_News_1.f (k : Nat) (a0_0 : Int) (a0_1 : Int) (a0_2 : Int) (l1_0 : List (S43)) : Option (Bool) := (cells_Of.f k l1_0 a0_0).bind fun bt162 => (some bt162.2.2)
theorem cells_News_1.mono : ∀ a0 a1 a2 a3 k, LeO (cells_News_1.f k a0 a1 a2 a3) (cells_News_1.f (k + 1) a0 a1 a2 a3) := by
  intro a0 a1 a2 a3 k
  unfold cells_News_1.f
  repeat' first
      | (with_reducible exact cells_Of.mono _ _ _)
      | (with_reducible exact LeO.refl _)
      | (with_reducible exact LeO.none _)
      | (with_reducible refine LeO.ite ?_ ?_)
      | (with_reducible refine LeO.bind ?_ (fun _ => ?_))
      | exact cells_Of.mono _ _ _
      | exact LeO.none _
      | refine LeO.ite ?_ ?_
      | refine LeO.bind ?_ (fun _ => ?_)
set_option maxHeartbeats 8000000 in
set_option maxRecDepth 100000 in
theorem cells_News_1.calls (k : Nat) (a0_0 : Int) (a0_1 : Int) (a0_2 : Int) (g1_0 : Nat) (A1_0 : Option Addr) (c1_0 : Nat) (l1_0 : List (S43)) (r : Bool) (w : World) (hr1_0 : Kd.C k43 w A1_0 l1_0.length l1_0) (hc1_0 : l1_0.length ≤ c1_0) (hb1_0 : w.heap[g1_0]? = some (.cells #[.slice A1_0 l1_0.length c1_0] 24 (0, 0))) (h : cells_News_1.f k a0_0 a0_1 a0_2 l1_0 = some r) :
    Calls Try.prog 91 #[.agg #[.int .i64 a0_0, .int .i64 a0_1, .int .i64 a0_2], .pointer (some ⟨g1_0, 0, none⟩)] w fun e w' => e = .returned (.bool r) ∧ Below w.heap.size w w' := by
  have hu43 := Try.underlying43
  have hu23 := Try.underlying23
  have HR1_0 := zM hr1_0
  have HC1_0 := zM hc1_0
  clear hr1_0 hc1_0
  have BK50 := zM hb1_0
  clear hb1_0
  have HB := zM (Below.refl w.heap.size w)
  have H : ((cells_Of.f k l1_0 a0_0).bind fun bt162 => (some bt162.2.2)) = some r := h
  clear h
  replace H := Option.bind_eq_some_iff.mp H
  obtain ⟨⟨t162, t163, t164⟩, A30, H⟩ := H
  replace H : (some t164) = some r := H
  have A3 := zM A30
  clear A30
  obtain rfl := Option.some.inj H
  go_enter Try.func91, Try.ntmps91
  go_wp2_with (first | ((with_reducible refine gate_dst (N := 2) rfl ?_); refine box_event ?hg (N := 2) ?hd (cs := #[.int .i64 a0_0, .int .i64 a0_1, .int .i64 a0_2]) (t := 43) ?hr ?_; (case hd => rfl); (case hg => rfl); (case hr => first | (go_simp; done) | (go_simp; rfl)); intro gb161 hg w4 hbox hb; have BK161 := zM (hbox); have GW161 := zM (bs_ hg); have GE161 := zM (bs_ hg); replace HB := zM (zB bel_ hb); have NB50_161 := zM ((by rw [hg]; exact Nat.ne_of_lt (blk_lt (g := g1_0) (o := .cells #[.slice A1_0 l1_0.length c1_0] 24 (0, 0)) blk_) : g1_0 ≠ gb161)); have NB161_50 := zM ((by rw [hg]; exact Nat.ne_of_gt (blk_lt (g := g1_0) (o := .cells #[.slice A1_0 l1_0.length c1_0] 24 (0, 0)) blk_) : gb161 ≠ g1_0)); replace BK50 := zM (blk_below (g := g1_0) (o := .cells #[.slice A1_0 l1_0.length c1_0] 24 (0, 0)) blk_ hb); clear hb hbox hg; have hnb5 := NB50_161.out; have hnc5 := NB161_50.out; have hcz6_0 : w4.cell? ⟨g1_0, 0, none⟩ = some (.slice A1_0 l1_0.length c1_0) := (zL BK50.out 0).trans rfl; have hfz6_0 := zF BK50.out 0; have hcz7_0 : w4.cell? ⟨gb161, 0, none⟩ = some (.int .i64 a0_0) := (zL BK161.out 0).trans rfl; have hcz7_1 : w4.cell? ⟨gb161, 1, none⟩ = some (.int .i64 a0_1) := (zL BK161.out 1).trans rfl; have hcz7_2 : w4.cell? ⟨gb161, 2, none⟩ = some (.int .i64 a0_2) := (zL BK161.out 2).trans rfl; have hfz7_0 := zF BK161.out 0; have hfz7_1 := zF BK161.out 1; have hfz7_2 := zF BK161.out 2) | ((with_reducible refine gate_callee (f := 92) rfl ?_); refine goL_ (some 10) Try.func92 #[.slice A1_0 l1_0.length c1_0, .int .i64 a0_0] ?_; (with_reducible refine (cells_Of.calls k _ _ l1_0 a0_0 t162 t163 t164 _ ?side1 ?side2 A3.out).mono ?_); (case side1 => repeat (first | exact (Kd.C_below HR1_0.out HB.out) | (with_reducible refine Kd.C_alloc ?_ _) | (with_reducible refine Kd.C_drewN ?_ _) | (with_reducible refine Kd.C_drew ?_))); (case side2 => exact HC1_0.out); rintro e w8 ⟨rfl, hb⟩; refine ⟨_, rfl, ?_⟩; replace BK50 := zM (blk_below (g := g1_0) (o := .cells #[.slice A1_0 l1_0.length c1_0] 24 (0, 0)) blk_ hb); replace BK161 := zM (bb_ BK161 hb); replace HB := zM (zB bel_ hb); (try clear hb); (try clear hb2); (try clear hk); (try clear hi)) | ((with_reducible refine gate_dst (N := 4) rfl ?_); refine box_event ?hg (N := 4) ?hd (cs := #[.int .i64 0, .int .i64 0]) (t := 23) ?hr ?_; (case hd => rfl); (case hg => rfl); (case hr => first | (go_simp; done) | (go_simp; rfl)); intro gb165 hg w9 hbox hb; have BK165 := zM (hbox); have GW165 := zM (bs_ hg); have GE165 := zM (bs_ hg); replace HB := zM (zB bel_ hb); have NB50_165 := zM ((by rw [hg]; exact Nat.ne_of_lt (blk_lt (g := g1_0) (o := .cells #[.slice A1_0 l1_0.length c1_0] 24 (0, 0)) blk_) : g1_0 ≠ gb165)); have NB165_50 := zM ((by rw [hg]; exact Nat.ne_of_gt (blk_lt (g := g1_0) (o := .cells #[.slice A1_0 l1_0.length c1_0] 24 (0, 0)) blk_) : gb165 ≠ g1_0)); replace BK50 := zM (blk_below (g := g1_0) (o := .cells #[.slice A1_0 l1_0.length c1_0] 24 (0, 0)) blk_ hb); have NB161_165 := zM (nl_ BK161 hg); have NB165_161 := zM (ng_ BK161 hg); replace BK161 := zM (bb_ BK161 hb); clear hb hbox hg; have hnb10 := NB165_50.out; have hnc10 := NB50_165.out; have hnb11 := NB165_161.out; have hnc11 := NB161_165.out; have hcz12_0 : w9.cell? ⟨gb165, 0, none⟩ = some (.int .i64 0) := (zL BK165.out 0).trans rfl; have hcz12_1 : w9.cell? ⟨gb165, 1, none⟩ = some (.int .i64 0) := (zL BK165.out 1).trans rfl; have hfz12_0 := zF BK165.out 0; have hfz12_1 := zF BK165.out 1))
  go_ret
  exact ⟨by first | rfl | (simp [errW_none, errW_some] <;> rfl) | (simp [*, errW_none, errW_some] <;> rfl), bel_⟩
/-! ### api_Cell_91_24: function 101 -/
def api_Cell_91_24.l0 : Nat → List (S43) → Int → Int → List (S43) → Option (Int)
  | 0, _, _, _, _ => none
  | k + 1, x0, x7, x8, x51000 => if x8 < x7 then (if 0 ≤ x8 then (if x8 < (x0.length : Int) then ((cells_News_1.f k ((rd_T43 x0 x8).f0) ((rd_T43 x0 x8).f1.f0) ((rd_T43 x0 x8).f1.f1) x51000).bind fun t167 => (if t167 = true then (some x8) else (api_Cell_91_24.l0 k x0 x7 (wrap64 (x8 + 1)) x51000))) else (none)) else (none)) else (some (-1))
def api_Cell_91_24.f (k : Nat) (l0 : List (S43)) (l1_0 : List (S43)) : Option (Int) := api_Cell_91_24.l0 k l0 (l0.length : Int) 0 l1_0
theorem api_Cell_91_24.mono_l : ∀ k, (∀ y0 y1 y2 y3, LeO (api_Cell_91_24.l0 k y0 y1 y2 y3) (api_Cell_91_24.l0 (k + 1) y0 y1 y2 y3))
  | 0 => fun _ _ _ _ r h => by simp [api_Cell_91_24.l0] at h
  | k + 1 => by
    have ih0 := api_Cell_91_24.mono_l k
    · intro y0 y1 y2 y3
      unfold api_Cell_91_24.l0
      repeat' first
      | (with_reducible exact ih0 _ _ _ _)
      | (with_reducible exact cells_News_1.mono _ _ _ _ _)
      | (with_reducible exact LeO.refl _)
      | (with_reducible exact LeO.none _)
      | (with_reducible refine LeO.ite ?_ ?_)
      | (with_reducible refine LeO.bind ?_ (fun _ => ?_))
      | exact ih0 _ _ _ _
      | exact cells_News_1.mono _ _ _ _ _
      | exact LeO.none _
      | refine LeO.ite ?_ ?_
      | refine LeO.bind ?_ (fun _ => ?_)
theorem api_Cell_91_24.mono : ∀ a0 a1 k, LeO (api_Cell_91_24.f k a0 a1) (api_Cell_91_24.f (k + 1) a0 a1) := by
  intro a0 a1 k
  have ih0 := api_Cell_91_24.mono_l k
  unfold api_Cell_91_24.f
  repeat' first
      | (with_reducible exact ih0 _ _ _ _)
      | (with_reducible exact cells_News_1.mono _ _ _ _ _)
      | (with_reducible exact LeO.refl _)
      | (with_reducible exact LeO.none _)
      | (with_reducible refine LeO.ite ?_ ?_)
      | (with_reducible refine LeO.bind ?_ (fun _ => ?_))
      | exact ih0 _ _ _ _
      | exact cells_News_1.mono _ _ _ _ _
      | exact LeO.none _
      | refine LeO.ite ?_ ?_
      | refine LeO.bind ?_ (fun _ => ?_)
set_option maxHeartbeats 8000000 in
set_option maxRecDepth 100000 in
theorem api_Cell_91_24.calls (k : Nat) (A0 : Option Addr) (c0 : Nat) (l0 : List (S43)) (g1_0 : Nat) (A1_0 : Option Addr) (c1_0 : Nat) (l1_0 : List (S43)) (r : Int) (w : World) (hr0 : Kd.C k43 w A0 l0.length l0) (hc0 : l0.length ≤ c0) (hr1_0 : Kd.C k43 w A1_0 l1_0.length l1_0) (hc1_0 : l1_0.length ≤ c1_0) (hb1_0 : w.heap[g1_0]? = some (.cells #[.slice A1_0 l1_0.length c1_0] 24 (0, 0))) (h : api_Cell_91_24.f k l0 l1_0 = some r) :
    Calls Try.prog 101 #[.slice A0 l0.length c0, .func (.func 91) #[] #[.pointer (some ⟨g1_0, 0, none⟩)]] w fun e w' => e = .returned (.int .i64 r) ∧ Below w.heap.size w w' := by
  have hu43 := Try.underlying43
  have HR0 := zM hr0
  have HC0 := zM hc0
  clear hr0 hc0
  have HR1_0 := zM hr1_0
  have HC1_0 := zM hc1_0
  clear hr1_0 hc1_0
  have BK50 := zM hb1_0
  clear hb1_0
  have HB := zM (Below.refl w.heap.size w)
  have H : (api_Cell_91_24.l0 k l0 (l0.length : Int) 0 l1_0) = some r := h
  clear h
  have H' := zM H
  clear H
  go_enter Try.func101, Try.ntmps101
  go_wp2
  go_loopg [8] k (fun kq v8 w' => ∃ (x8_1 : Int), v8 = .int .i64 x8_1 ∧ Aside0 (api_Cell_91_24.l0 kq l0 (l0.length : Int) x8_1 l1_0 = some r) ∧ Aside0 (kq ≤ k) ∧ Aside0 (w'.heap[g1_0]? = some (.cells #[(.slice A1_0 l1_0.length c1_0)] 24 (0, 0))) ∧ Aside0 (Below w.heap.size w w'))
  case atStart => exact ⟨(0), (by first | rfl | (simp; done) | (simp [*]; done) | (simp; grind)), H', ⟨Nat.le_refl _⟩, ⟨blf_⟩, ⟨bel_⟩⟩
  case round =>
   clear H'
   try clear c1
   try clear p2
   obtain ⟨x8_1, rfl, HA, HK1, BK50, HB⟩ := hrel
   cases gk with
   | zero => exact absurd HA.out (by simp [api_Cell_91_24.l0])
   | succ k1 =>
    have H := HA.out
    clear HA
    simp only [api_Cell_91_24.l0] at H
    by_cases c3 : x8_1 < (l0.length : Int)
    rotate_left
    · rw [if_neg c3] at H
      have c3b0 : decide (x8_1 < (l0.length : Int)) = false := decide_eq_false c3
      clear c3
      obtain rfl := Option.some.inj H
      go_wp2
      go_ret
      exact ⟨by first | rfl | (simp [errW_none, errW_some] <;> rfl) | (simp [*, errW_none, errW_some] <;> rfl), bel_⟩
    rw [if_pos c3] at H
    have c3b0 : decide (x8_1 < (l0.length : Int)) = true := decide_eq_true c3
    clear c3
    by_cases c4 : 0 ≤ x8_1
    rotate_left
    · rw [if_neg c4] at H
      exact absurd H (by simp)
    rw [if_pos c4] at H
    have c4b0 : decide (0 ≤ x8_1) = true := decide_eq_true c4
    clear c4
    by_cases c5 : x8_1 < (l0.length : Int)
    rotate_left
    · rw [if_neg c5] at H
      exact absurd H (by simp)
    rw [if_pos c5] at H
    have c5b0 : decide (x8_1 < (l0.length : Int)) = true := decide_eq_true c5
    clear c5
    replace H := Option.bind_eq_some_iff.mp H
    obtain ⟨t167, A60, H⟩ := H
    replace H : (if t167 = true then (some x8_1) else (api_Cell_91_24.l0 k1 l0 (l0.length : Int) (wrap64 (x8_1 + 1)) l1_0)) = some r := H
    have A6 := zM A60
    clear A60
    by_cases c7 : t167 = true
    · subst c7
      have H1 : (some x8_1) = some r := by rw [if_pos rfl] at H; exact H
      clear H
      have H := H1
      clear H1
      obtain rfl := Option.some.inj H
      have p166 : 0 ≤ (x8_1 : Int) := of_decide_eq_true (by first | (with_reducible assumption) | assumption)
      have q166 : x8_1 < (l0.length : Int) := of_decide_eq_true (by first | (with_reducible assumption) | assumption)
      obtain ⟨ad166, e166, hx166_0, hx166_1, hx166_2⟩ := at_T43 HR0.out x8_1 p166 q166
      cases e166
      replace hx166_0 := (HB.out.cell (World.block_lt_of_cell? w _ hx166_0)).trans hx166_0
      replace hx166_1 := (HB.out.cell (World.block_lt_of_cell? w _ hx166_1)).trans hx166_1
      replace hx166_2 := (HB.out.cell (World.block_lt_of_cell? w _ hx166_2)).trans hx166_2
      replace p166 := eq_true p166
      replace q166 := eq_true q166
      go_wp2_with (first | (go_at_call 91; (with_reducible refine (cells_News_1.calls k1 ((rd_T43 l0 x8_1).f0) ((rd_T43 l0 x8_1).f1.f0) ((rd_T43 l0 x8_1).f1.f1) g1_0 A1_0 c1_0 l1_0 true _ ?side1 ?side2 ?side3 A6.out).mono ?_); (case side1 => repeat (first | exact (Kd.C_below HR1_0.out HB.out) | (with_reducible refine Kd.C_alloc ?_ _) | (with_reducible refine Kd.C_drewN ?_ _) | (with_reducible refine Kd.C_drew ?_))); (case side2 => exact HC1_0.out); (case side3 => exact blf_); rintro e w8 ⟨rfl, hb⟩; replace BK50 := zM (blk_below (g := g1_0) (o := .cells #[.slice A1_0 l1_0.length c1_0] 24 (0, 0)) blk_ hb); replace HB := zM (zB bel_ hb); (try clear hb); (try clear hb2); (try clear hk); (try clear hi)))
      go_ret
      exact ⟨by first | rfl | (simp [errW_none, errW_some] <;> rfl) | (simp [*, errW_none, errW_some] <;> rfl), bel_⟩
    replace c7 := Bool.eq_false_iff.mpr c7
    subst c7
    have H1 : (api_Cell_91_24.l0 k1 l0 (l0.length : Int) (wrap64 (x8_1 + 1)) l1_0) = some r := by rw [if_neg (show ¬ (false = true) by decide)] at H; exact H
    clear H
    have H := H1
    clear H1
    have H' := zM H
    clear H
    have p166 : 0 ≤ (x8_1 : Int) := of_decide_eq_true (by first | (with_reducible assumption) | assumption)
    have q166 : x8_1 < (l0.length : Int) := of_decide_eq_true (by first | (with_reducible assumption) | assumption)
    obtain ⟨ad166, e166, hx166_0, hx166_1, hx166_2⟩ := at_T43 HR0.out x8_1 p166 q166
    cases e166
    replace hx166_0 := (HB.out.cell (World.block_lt_of_cell? w _ hx166_0)).trans hx166_0
    replace hx166_1 := (HB.out.cell (World.block_lt_of_cell? w _ hx166_1)).trans hx166_1
    replace hx166_2 := (HB.out.cell (World.block_lt_of_cell? w _ hx166_2)).trans hx166_2
    replace p166 := eq_true p166
    replace q166 := eq_true q166
    go_wp2_with (first | (go_at_call 91; (with_reducible refine (cells_News_1.calls k1 ((rd_T43 l0 x8_1).f0) ((rd_T43 l0 x8_1).f1.f0) ((rd_T43 l0 x8_1).f1.f1) g1_0 A1_0 c1_0 l1_0 false _ ?side1 ?side2 ?side3 A6.out).mono ?_); (case side1 => repeat (first | exact (Kd.C_below HR1_0.out HB.out) | (with_reducible refine Kd.C_alloc ?_ _) | (with_reducible refine Kd.C_drewN ?_ _) | (with_reducible refine Kd.C_drew ?_))); (case side2 => exact HC1_0.out); (case side3 => exact blf_); rintro e w9 ⟨rfl, hb⟩; replace BK50 := zM (blk_below (g := g1_0) (o := .cells #[.slice A1_0 l1_0.length c1_0] 24 (0, 0)) blk_ hb); replace HB := zM (zB bel_ hb); (try clear hb); (try clear hb2); (try clear hk); (try clear hi)))
    go_roundg k1
    case measure => have := HK1.out; omega
    case rel => exact ⟨(wrap64 (x8_1 + 1)), (by first | rfl | (simp; done) | (simp [*]; done) | (simp; grind)), H', ⟨by have := HK1.out; omega⟩, ⟨blf_⟩, ⟨bel_⟩⟩
/-! ### api_Cell_90: function 90 -/
def api_Cell_90.l0 : Nat → List (S43) → Int → Int → List (S43) → Option ((List (S43)))
  | 0, _, _, _, _ => none
  | k + 1, x0, x5, x6, x51000 => if x6 < (x0.length : Int) then (if 0 ≤ x6 then ((cells_News_1.f k ((rd_T43 x0 x6).f0) ((rd_T43 x0 x6).f1.f0) ((rd_T43 x0 x6).f1.f1) x51000).bind fun t171 => (if t171 = true then (api_Cell_90.l0 k x0 x5 (wrap64 (x6 + 1)) x51000) else (if 0 ≤ x5 then (if x5 < (x0.length : Int) then (api_Cell_90.l0 k (x0.set (x5 : Int).toNat (⟨(rd_T43 x0 x6).f0, (⟨(rd_T43 x0 x6).f1.f0, (rd_T43 x0 x6).f1.f1⟩ : S23)⟩ : S43)) (wrap64 (x5 + 1)) (wrap64 (x6 + 1)) x51000) else (none)) else (none)))) else (none)) else (if 0 ≤ x5 then (if x5 ≤ (x0.length : Int) then (some ((x0.take (x5 : Int).toNat ++ List.replicate (x0.length - (x5 : Int).toNat) z43).take (x5 : Int).toNat)) else (none)) else (none))
def api_Cell_90.f (k : Nat) (l0 : List (S43)) (l1_0 : List (S43)) : Option ((List (S43))) := (api_Cell_91_24.f k l0 l1_0).bind fun t168 => (if t168 = (-1) then (some l0) else (api_Cell_90.l0 k l0 t168 (wrap64 (t168 + 1)) l1_0))
theorem api_Cell_90.mono_l : ∀ k, (∀ y0 y1 y2 y3, LeO (api_Cell_90.l0 k y0 y1 y2 y3) (api_Cell_90.l0 (k + 1) y0 y1 y2 y3))
  | 0 => fun _ _ _ _ r h => by simp [api_Cell_90.l0] at h
  | k + 1 => by
    have ih0 := api_Cell_90.mono_l k
    · intro y0 y1 y2 y3
      unfold api_Cell_90.l0
      repeat' first
      | (with_reducible exact ih0 _ _ _ _)
      | (with_reducible exact api_Cell_91_24.mono _ _ _)
      | (with_reducible exact cells_News_1.mono _ _ _ _ _)
      | (with_reducible exact LeO.refl _)
      | (with_reducible exact LeO.none _)
      | (with_reducible refine LeO.ite ?_ ?_)
      | (with_reducible refine LeO.bind ?_ (fun _ => ?_))
      | exact ih0 _ _ _ _
      | exact api_Cell_91_24.mono _ _ _
      | exact cells_News_1.mono _ _ _ _ _
      | exact LeO.none _
      | refine LeO.ite ?_ ?_
      | refine LeO.bind ?_ (fun _ => ?_)
theorem api_Cell_90.mono : ∀ a0 a1 k, LeO (api_Cell_90.f k a0 a1) (api_Cell_90.f (k + 1) a0 a1) := by
  intro a0 a1 k
  have ih0 := api_Cell_90.mono_l k
  unfold api_Cell_90.f
  repeat' first
      | (with_reducible exact ih0 _ _ _ _)
      | (with_reducible exact api_Cell_91_24.mono _ _ _)
      | (with_reducible exact cells_News_1.mono _ _ _ _ _)
      | (with_reducible exact LeO.refl _)
      | (with_reducible exact LeO.none _)
      | (with_reducible refine LeO.ite ?_ ?_)
      | (with_reducible refine LeO.bind ?_ (fun _ => ?_))
      | exact ih0 _ _ _ _
      | exact api_Cell_91_24.mono _ _ _
      | exact cells_News_1.mono _ _ _ _ _
      | exact LeO.none _
      | refine LeO.ite ?_ ?_
      | refine LeO.bind ?_ (fun _ => ?_)
set_option maxHeartbeats 8000000 in
set_option maxRecDepth 100000 in
theorem api_Cell_90.calls (k : Nat) (P0_ : Nat → Prop) (u9000_ : Value) (l0 : List (S43)) (g1_0 : Nat) (A1_0 : Option Addr) (c1_0 : Nat) (l1_0 : List (S43)) (r : List (S43)) (w0 w : World) (hB : Below w0.heap.size w0 w) (ho0 : Kd.R k43 43 w w0.heap.size P0_ u9000_ l0) (hr1_0 : ∀ W_, Kept w W_ (fun k_ => P0_ k_) → Kd.C k43 W_ A1_0 l1_0.length l1_0) (hc1_0 : l1_0.length ≤ c1_0) (hb1_0 : w.heap[g1_0]? = some (.cells #[.slice A1_0 l1_0.length c1_0] 24 (0, 0))) (h : api_Cell_90.f k l0 l1_0 = some r) :
    Calls Try.prog 90 #[u9000_, .func (.func 91) #[] #[.pointer (some ⟨g1_0, 0, none⟩)]] w fun e w' => ∃ v0_ : Value, e = .returned (v0_) ∧ Kd.R k43 43 w' w0.heap.size (fun k_ => (P0_ k_ ∨ w.heap.size ≤ k_)) v0_ r ∧ Below w0.heap.size w0 w' ∧ Kept w w' (fun k_ => P0_ k_) := by
  have hu43 := Try.underlying43
  have HO0 := zM (show Kd.R k43 43 w w0.heap.size (fun k_ => (P0_ k_ ∨ w.heap.size ≤ k_)) u9000_ l0 from Kd.R_mono ho0 (fun k_ hk => (.inl hk)))
  have HR1_0 := zM hr1_0
  have HC1_0 := zM hc1_0
  clear hr1_0 hc1_0
  have BK50 := zM hb1_0
  clear hb1_0
  have HK := zM (Kept.refl w (fun k_ => P0_ k_))
  have HW0 := zM hB.size
  have HB := zM hB
  clear hB
  have H : ((api_Cell_91_24.f k l0 l1_0).bind fun t168 => (if t168 = (-1) then (some l0) else (api_Cell_90.l0 k l0 t168 (wrap64 (t168 + 1)) l1_0))) = some r := h
  clear h
  replace H := Option.bind_eq_some_iff.mp H
  obtain ⟨t168, A30, H⟩ := H
  replace H : (if t168 = (-1) then (some l0) else (api_Cell_90.l0 k l0 t168 (wrap64 (t168 + 1)) l1_0)) = some r := H
  have A3 := zM A30
  clear A30
  by_cases c4 : t168 = (-1)
  · rw [if_pos c4] at H
    have c4b0 : (t168 == (-1)) = true := beq_iff_eq.mpr c4
    have c4b1 : (t168 != (-1)) = false := bne_eq_false_iff_eq.mpr c4
    clear c4
    obtain rfl := Option.some.inj H
    obtain ⟨Ao5, co5, eo5⟩ := Kd.R_slice HO0.out
    subst eo5
    go_enter Try.func90, Try.ntmps90
    go_wp2_with (first | ((with_reducible refine gate_callee (f := 101) rfl ?_); refine goL_ (some 10) Try.func101 #[.slice Ao5 l0.length co5, .func (.func 91) #[] #[.pointer (some ⟨g1_0, 0, none⟩)]] ?_; (with_reducible refine (api_Cell_91_24.calls k _ _ l0 g1_0 A1_0 c1_0 l1_0 t168 _ ?side1 ?side2 ?side3 ?side4 ?side5 A3.out).mono ?_); (case side1 => repeat (first | exact (Kd.R_reads' HO0.out).2.2 | (with_reducible refine Kd.C_alloc ?_ _) | (with_reducible refine Kd.C_drewN ?_ _) | (with_reducible refine Kd.C_drew ?_))); (case side2 => exact (Kd.R_reads' HO0.out).2.1); (case side3 => exact Kd.C_kept_now HR1_0.out (by repeat (first | (with_reducible first | exact HK.out | apply Kept.alloc | apply Kept.drewN | apply Kept.drew | refine Kept.setCell ?_ (.inr GW50.out) _) | exact HK.out))); (case side4 => exact HC1_0.out); (case side5 => exact blf_); rintro e w6 ⟨rfl, hb⟩; refine ⟨_, rfl, ?_⟩; replace HO0 := zM (Kd.R_below (rl_ HO0) hb); replace BK50 := zM (blk_below (g := g1_0) (o := .cells #[.slice A1_0 l1_0.length c1_0] 24 (0, 0)) blk_ hb); replace HK := zM (Kept.below (S := (fun k_ => P0_ k_)) (by repeat (first | (with_reducible first | exact HK.out | apply Kept.alloc | apply Kept.drewN | apply Kept.drew | refine Kept.setCell ?_ (.inr GW50.out) _) | exact HK.out)) hb); replace HB := zM (zB bel_ hb); (try clear hb); (try clear hb2); (try clear hk); (try clear hi)))
    go_ret
    exact ⟨_, by first | rfl | (simp [errW_none, errW_some] <;> rfl) | (simp [*, errW_none, errW_some] <;> rfl), by (with_reducible repeat (first | apply Kd.R_alloc | apply Kd.R_drewN | apply Kd.R_drew)); exact HO0.out, by repeat (first | (with_reducible first | exact HB.out | apply below_alloc | apply pw_below_drewN | apply below_drew1 | refine below_set ?_ GE50.out) | exact HB.out), by repeat (first | (with_reducible first | exact HK.out | apply Kept.alloc | apply Kept.drewN | apply Kept.drew | refine Kept.setCell ?_ (.inr GW50.out) _) | exact HK.out)⟩
  rw [if_neg c4] at H
  have c4b0 : (t168 == (-1)) = false := beq_eq_false_iff_ne.mpr c4
  have c4b1 : (t168 != (-1)) = true := bne_iff_ne.mpr c4
  have H' := zM H
  clear H
  obtain ⟨Ao7, co7, eo7⟩ := Kd.R_slice HO0.out
  subst eo7
  go_enter Try.func90, Try.ntmps90
  go_wp2_with (first | ((with_reducible refine gate_callee (f := 101) rfl ?_); refine goL_ (some 10) Try.func101 #[.slice Ao7 l0.length co7, .func (.func 91) #[] #[.pointer (some ⟨g1_0, 0, none⟩)]] ?_; (with_reducible refine (api_Cell_91_24.calls k _ _ l0 g1_0 A1_0 c1_0 l1_0 t168 _ ?side1 ?side2 ?side3 ?side4 ?side5 A3.out).mono ?_); (case side1 => repeat (first | exact (Kd.R_reads' HO0.out).2.2 | (with_reducible refine Kd.C_alloc ?_ _) | (with_reducible refine Kd.C_drewN ?_ _) | (with_reducible refine Kd.C_drew ?_))); (case side2 => exact (Kd.R_reads' HO0.out).2.1); (case side3 => exact Kd.C_kept_now HR1_0.out (by repeat (first | (with_reducible first | exact HK.out | apply Kept.alloc | apply Kept.drewN | apply Kept.drew | refine Kept.setCell ?_ (.inr GW50.out) _) | exact HK.out))); (case side4 => exact HC1_0.out); (case side5 => exact blf_); rintro e w8 ⟨rfl, hb⟩; refine ⟨_, rfl, ?_⟩; replace HO0 := zM (Kd.R_below (rl_ HO0) hb); replace BK50 := zM (blk_below (g := g1_0) (o := .cells #[.slice A1_0 l1_0.length c1_0] 24 (0, 0)) blk_ hb); replace HK := zM (Kept.below (S := (fun k_ => P0_ k_)) (by repeat (first | (with_reducible first | exact HK.out | apply Kept.alloc | apply Kept.drewN | apply Kept.drew | refine Kept.setCell ?_ (.inr GW50.out) _) | exact HK.out)) hb); replace HB := zM (zB bel_ hb); (try clear hb); (try clear hb2); (try clear hk); (try clear hi)))
  go_loopg [5, 6] k (fun kq v5 v6 w' => ∃ (x0_1 : List (S43)) (x5_1 : Int) (x6_1 : Int), v5 = .int .i64 x5_1 ∧ v6 = .int .i64 x6_1 ∧ Aside0 (api_Cell_90.l0 kq x0_1 x5_1 x6_1 l1_0 = some r) ∧ Aside0 (kq ≤ k) ∧ Aside0 (Kd.R k43 43 w' w0.heap.size (fun k_ => (P0_ k_ ∨ w.heap.size ≤ k_)) (.slice Ao7 l0.length co7) x0_1) ∧ Aside0 (w'.heap[g1_0]? = some (.cells #[(.slice A1_0 l1_0.length c1_0)] 24 (0, 0))) ∧ Aside0 (Kept w w' (fun k_ => P0_ k_)) ∧ Aside0 (Below w0.heap.size w0 w'))
  case atStart => exact ⟨(l0), (t168), (wrap64 (t168 + 1)), (by first | rfl | (simp; done) | (simp [*]; done) | (simp; grind)), (by first | rfl | (simp; done) | (simp [*]; done) | (simp; grind)), H', ⟨Nat.le_refl _⟩, ⟨by (with_reducible repeat (first | apply Kd.R_alloc | apply Kd.R_drewN | apply Kd.R_drew)); exact HO0.out⟩, ⟨blf_⟩, ⟨by repeat (first | (with_reducible first | exact HK.out | apply Kept.alloc | apply Kept.drewN | apply Kept.drew | refine Kept.setCell ?_ (.inr GW50.out) _) | exact HK.out)⟩, ⟨bel_⟩⟩
  case round =>
   clear H'
   try clear c1
   try clear p2
   try clear c4
   try clear c4b0
   try clear c4b1
   try clear p6
   try clear c7
   obtain ⟨x0_1, x5_1, x6_1, rfl, rfl, HA, HK1, HO_0, BK50, HK, HB⟩ := hrel
   have hl0_1 := (Kd.R_reads' HO_0.out).1
   rw [hl0_1] at HO_0
   (try simp only [hl0_1])
   (try simp only [hl0_1] at BK50)
   cases gk with
   | zero => exact absurd HA.out (by simp [api_Cell_90.l0])
   | succ k1 =>
    have H := HA.out
    clear HA
    simp only [api_Cell_90.l0] at H
    by_cases c9 : x6_1 < (x0_1.length : Int)
    rotate_left
    · rw [if_neg c9] at H
      have c9b0 : decide (x6_1 < (x0_1.length : Int)) = false := decide_eq_false c9
      clear c9
      by_cases c27 : 0 ≤ x5_1
      rotate_left
      · rw [if_neg c27] at H
        exact absurd H (by simp)
      rw [if_pos c27] at H
      have c27b0 := eq_true c27
      have c27b1 : decide (0 ≤ x5_1) = true := decide_eq_true c27
      clear c27
      by_cases c28 : x5_1 ≤ (x0_1.length : Int)
      rotate_left
      · rw [if_neg c28] at H
        exact absurd H (by simp)
      rw [if_pos c28] at H
      have c28b0 := eq_true c28
      have c28b1 : decide (x5_1 ≤ (x0_1.length : Int)) = true := decide_eq_true c28
      clear c28
      obtain ⟨y173, hy173⟩ : ∃ y_ : List (S43), y_ = (x0_1.drop (x5_1 : Int).toNat) := ⟨_, rfl⟩
      replace H : (some ((x0_1.take (x5_1 : Int).toNat ++ List.replicate (x0_1.length - (x5_1 : Int).toNat) z43).take (x5_1 : Int).toNat)) = some r := by first | (rw [hy173]; with_reducible exact H) | (have H2_ := (Option.bind_some _ _).symm.trans H; rw [hy173]; with_reducible exact H2_) | (have H2_ := (Option.bind_some _ _).symm.trans H; with_reducible exact H2_) | with_reducible exact H | (rw [hy173]; exact H) | exact H
      have Ny173 := zM hy173
      clear hy173
      obtain ⟨y177, hy177⟩ : ∃ y_ : List (S43), y_ = (x0_1.take (x5_1 : Int).toNat ++ List.replicate (x0_1.length - (x5_1 : Int).toNat) z43) := ⟨_, rfl⟩
      replace H : (some (y177.take (x5_1 : Int).toNat)) = some r := by first | (rw [hy177]; with_reducible exact H) | (have H2_ := (Option.bind_some _ _).symm.trans H; rw [hy177]; with_reducible exact H2_) | (have H2_ := (Option.bind_some _ _).symm.trans H; with_reducible exact H2_) | with_reducible exact H | (rw [hy177]; exact H) | exact H
      have Ny177 := zM hy177
      clear hy177
      have c29b0 := eq_true (of_decide_eq_true (by first | (with_reducible assumption) | assumption) : x5_1 ≤ (x0_1.length : Int))
      obtain ⟨y178, hy178⟩ : ∃ y_ : List (S43), y_ = (y177.take (x5_1 : Int).toNat) := ⟨_, rfl⟩
      replace H : (some y178) = some r := by first | (rw [hy178]; with_reducible exact H) | (have H2_ := (Option.bind_some _ _).symm.trans H; rw [hy178]; with_reducible exact H2_) | (have H2_ := (Option.bind_some _ _).symm.trans H; with_reducible exact H2_) | with_reducible exact H | (rw [hy178]; exact H) | exact H
      have Ny178 := zM hy178
      clear hy178
      obtain rfl := Option.some.inj H
      have q30 : (x5_1 : Int) ≤ ((x0_1.length : Int) : Int) := of_decide_eq_true (by first | (with_reducible assumption) | assumption)
      obtain ⟨i030, hi030, _, hsz30, _⟩ := info_parts info43
      have hroom30 : x0_1.length ≤ co7 := (Kd.R_reads' HO_0.out).2.1
      have hC30 : Kd.C k43 _ Ao7 x0_1.length x0_1 := (Kd.R_reads' HO_0.out).2.2
      have q030 : (0 : Int) ≤ (x5_1 : Int) := of_decide_eq_true (by first | (with_reducible assumption) | assumption)
      have hcut30 := cut_from (P := Try.prog) 24 43 .i64 Try.underlying24 hi030 3 hsz30 Ao7 x0_1.length co7 x5_1 q030 q30
      have hr30 := Kd.C_drop (m := (x5_1 : Int).toNat) (c := co7) hC30 (by omega) hroom30
      obtain ⟨A30, hA30⟩ : ∃ A1, A1 = (if co7 = (x5_1 : Int).toNat then Ao7 else (Ao7 : Option Addr).map (·.add ((x5_1 : Int).toNat * 3))) := ⟨_, rfl⟩
      obtain ⟨c30, hc30⟩ : ∃ c1, c1 = co7 - (x5_1 : Int).toNat := ⟨_, rfl⟩
      have hy30 : y173.length = x0_1.length - (x5_1 : Int).toNat := (by rw [Ny173.out, List.length_drop] <;> omega)
      rw [show (x0_1).drop (x5_1 : Int).toNat = y173 from Ny173.out.symm] at hr30
      replace hr30 : Kd.C k43 _ A30 y173.length y173 := (by rw [hA30]; exact hr30)
      rw [← hy30, ← hA30, ← hc30] at hcut30
      have HR176 := zM hr30
      have HC176 := zM (show y173.length ≤ c30 from by rw [hy30, hc30]; exact Nat.sub_le_sub_right hroom30 _)
      clear hr30 hC30 hroom30 hi030 hsz30 hc30
      have KY30 := zM hy30
      have KA30 := zM hA30
      clear hy30 hA30
      have KL30 := zM (show (x5_1 : Int).toNat ≤ x0_1.length from by omega)
      replace q30 := eq_true q30
      go_wp2_with (first | ((with_reducible refine gate_builtin (b := .clear) (xs := #[.tmp 38]) rfl ?_); have hl_ : (x5_1 : Int) ≤ (x0_1.length : Int) := of_decide_eq_true (by first | (with_reducible assumption) | assumption); have h0_ : (0 : Int) ≤ x5_1 := of_decide_eq_true (by first | (with_reducible assumption) | assumption); refine R_clear_ev k43 (w0 := w0) w0.heap.size rfl (.tmp 38) 24 43 rfl Try.underlying24 z43 [(.int .i64 0), (.int .i64 0), (.int .i64 0)] (.agg #[(.int .i64 0), (.int .i64 0), (.int .i64 0)]) (fun _ => by kernel_rfl) rfl (by simp [Value.oneCell']) rfl (fun _ => (k43_mkM _ _ _ z43 )) (n := x0_1.length) (c := co7) (k := (x5_1 : Int).toNat) rfl ?hA ?hm (rl_ HO_0) ?hk bel_ (below_size bel_) ?_; (case hA => exact KA30.out); (case hm => have ha_ := KY30.out; omega); (case hk => omega); intro w31 ho hb hg; clear hl_ h0_; rw [← Ny177.out] at ho; have hyl32_ := Nat.le_of_eq (Kd.R_reads' ho).1; have hyk32_ := Nat.le_of_eq (Kd.R_reads' ho).1.symm; replace BK50 := zM (blk_grown (g := g1_0) (o := .cells #[.slice A1_0 l1_0.length c1_0] 24 (0, 0)) blk_ hg (Kd.R_ne HO_0.out BK50.out (by decide))); replace HB := zM (hb); replace HK := zM (Kept.of_grown (S := (fun k_ => P0_ k_)) hg (by repeat (first | (with_reducible first | exact HK.out | apply Kept.alloc | apply Kept.drewN | apply Kept.drew | refine Kept.setCell ?_ (.inr GW50.out) _) | exact HK.out)) (fun k_ e_ => (HO_0.out.1 k_ e_))); replace HO_0 := zM (ho); clear ho hb hg; have q33 : (x5_1 : Int) ≤ ((x0_1.length : Int) : Int) := of_decide_eq_true (by first | (with_reducible assumption) | assumption); obtain ⟨i033, hi033, _, hsz33, _⟩ := info_parts info43; have hcut33 := cut_to (P := Try.prog) 24 43 .i64 Try.underlying24 hi033 Ao7 x0_1.length co7 x5_1 (of_decide_eq_true (by first | (with_reducible assumption) | assumption)) q33 (Kd.R_reads' HO_0.out).2.1; have hr33 := Kd.R_take (m := (x5_1 : Int).toNat) HO_0.out (by omega); have hy33 : y178.length = (x5_1 : Int).toNat := (by rw [Ny178.out, List.length_take]; omega); rw [← Ny178.out] at hr33; rw [← hy33] at hr33 hcut33; clear hy33 hi033 hsz33 HO_0; have HO180 := zM hr33; clear hr33; replace q33 := eq_true q33))
      go_ret
      exact ⟨_, by first | rfl | (simp [errW_none, errW_some] <;> rfl) | (simp [*, errW_none, errW_some] <;> rfl), by (with_reducible repeat (first | apply Kd.R_alloc | apply Kd.R_drewN | apply Kd.R_drew)); exact HO180.out, by repeat (first | (with_reducible first | exact HB.out | apply below_alloc | apply pw_below_drewN | apply below_drew1 | refine below_set ?_ GE50.out) | exact HB.out), by repeat (first | (with_reducible first | exact HK.out | apply Kept.alloc | apply Kept.drewN | apply Kept.drew | refine Kept.setCell ?_ (.inr GW50.out) _) | exact HK.out)⟩
    rw [if_pos c9] at H
    have c9b0 : decide (x6_1 < (x0_1.length : Int)) = true := decide_eq_true c9
    clear c9
    by_cases c10 : 0 ≤ x6_1
    rotate_left
    · rw [if_neg c10] at H
      exact absurd H (by simp)
    rw [if_pos c10] at H
    have c10b0 : decide (0 ≤ x6_1) = true := decide_eq_true c10
    clear c10
    replace H := Option.bind_eq_some_iff.mp H
    obtain ⟨t171, A110, H⟩ := H
    replace H : (if t171 = true then (api_Cell_90.l0 k1 x0_1 x5_1 (wrap64 (x6_1 + 1)) l1_0) else (if 0 ≤ x5_1 then (if x5_1 < (x0_1.length : Int) then (api_Cell_90.l0 k1 (x0_1.set (x5_1 : Int).toNat (⟨(rd_T43 x0_1 x6_1).f0, (⟨(rd_T43 x0_1 x6_1).f1.f0, (rd_T43 x0_1 x6_1).f1.f1⟩ : S23)⟩ : S43)) (wrap64 (x5_1 + 1)) (wrap64 (x6_1 + 1)) l1_0) else (none)) else (none))) = some r := H
    have A11 := zM A110
    clear A110
    by_cases c12 : t171 = true
    · subst c12
      have H1 : (api_Cell_90.l0 k1 x0_1 x5_1 (wrap64 (x6_1 + 1)) l1_0) = some r := by rw [if_pos rfl] at H; exact H
      clear H
      have H := H1
      clear H1
      have H' := zM H
      clear H
      have p169 : 0 ≤ (x6_1 : Int) := of_decide_eq_true (by first | (with_reducible assumption) | assumption)
      have q169 : x6_1 < (x0_1.length : Int) := of_decide_eq_true (by first | (with_reducible assumption) | assumption)
      obtain ⟨ad169, e169, hx169_0, hx169_1, hx169_2⟩ := at_T43 (Kd.R_reads' HO_0.out).2.2 x6_1 p169 q169
      cases e169
      replace p169 := eq_true p169
      replace q169 := eq_true q169
      go_wp2_with (first | ((with_reducible refine gate_dst (N := 7) rfl ?_); refine box_event ?hg (N := 7) ?hd (cs := #[.int .i64 0, .int .i64 0, .int .i64 0]) (t := 43) ?hr ?_; (case hd => rfl); (case hg => rfl); (case hr => first | (go_simp; done) | (go_simp; rfl)); intro gb170 hg w13 hbox hb; replace HO_0 := zM (Kd.R_below (Kd.R_elderB (rl_ HO_0) gb170 (Nat.le_of_eq hg.symm)) hb); have BK170 := zM (hbox); have GW170 := zM ((by rw [hg]; exact (by first | exact HK.out.1 | exact (show Kept w _ (fun k_ => P0_ k_) from by repeat (first | (with_reducible first | exact HK.out | apply Kept.alloc | apply Kept.drewN | apply Kept.drew | refine Kept.setCell ?_ (.inr GW50.out) _) | exact HK.out)).1) : w.heap.size ≤ gb170)); replace HK := zM (Kept.below (S := (fun k_ => P0_ k_)) (by repeat (first | (with_reducible first | exact HK.out | apply Kept.alloc | apply Kept.drewN | apply Kept.drew | refine Kept.setCell ?_ (.inr GW50.out) _) | exact HK.out)) hb); have GE170 := zM ((by rw [hg]; exact (below_size bel_) : w0.heap.size ≤ gb170)); replace HB := zM (zB bel_ hb); have NB50_170 := zM ((by rw [hg]; exact Nat.ne_of_lt (blk_lt (g := g1_0) (o := .cells #[.slice A1_0 l1_0.length c1_0] 24 (0, 0)) blk_) : g1_0 ≠ gb170)); have NB170_50 := zM ((by rw [hg]; exact Nat.ne_of_gt (blk_lt (g := g1_0) (o := .cells #[.slice A1_0 l1_0.length c1_0] 24 (0, 0)) blk_) : gb170 ≠ g1_0)); replace BK50 := zM (blk_below (g := g1_0) (o := .cells #[.slice A1_0 l1_0.length c1_0] 24 (0, 0)) blk_ hb); clear hb hbox hg; have hnb14 := NB170_50.out; have hnc14 := NB50_170.out; have hcz15_0 : w13.cell? ⟨gb170, 0, none⟩ = some (.int .i64 0) := (zL BK170.out 0).trans rfl; have hcz15_1 : w13.cell? ⟨gb170, 1, none⟩ = some (.int .i64 0) := (zL BK170.out 1).trans rfl; have hcz15_2 : w13.cell? ⟨gb170, 2, none⟩ = some (.int .i64 0) := (zL BK170.out 2).trans rfl; have hfz15_0 := zF BK170.out 0; have hfz15_1 := zF BK170.out 1; have hfz15_2 := zF BK170.out 2) | (go_at_call 91; (with_reducible refine (cells_News_1.calls k1 ((rd_T43 x0_1 x6_1).f0) ((rd_T43 x0_1 x6_1).f1.f0) ((rd_T43 x0_1 x6_1).f1.f1) g1_0 A1_0 c1_0 l1_0 true _ ?side1 ?side2 ?side3 A11.out).mono ?_); (case side1 => exact Kd.C_kept_now HR1_0.out (by repeat (first | (with_reducible first | exact HK.out | apply Kept.alloc | apply Kept.drewN | apply Kept.drew | refine Kept.setCell ?_ (.inr GW50.out) _ | refine Kept.setCell ?_ (.inr GW170.out) _) | exact HK.out))); (case side2 => exact HC1_0.out); (case side3 => exact blf_); rintro e w16 ⟨rfl, hb⟩; replace HO_0 := zM (Kd.R_below (by (with_reducible repeat (first | apply Kd.R_alloc | apply Kd.R_drewN | apply Kd.R_drew)); exact (Kd.R_mono (Kd.R_far (p := ⟨gb170, 2, none⟩) (Kd.R_far (p := ⟨gb170, 1, none⟩) (Kd.R_far (p := ⟨gb170, 0, none⟩) (Kd.R_mono HO_0.out (fun k_ hk => (⟨hk, hk.2⟩ : _ ∧ k_ ≠ gb170))) (fun _ hk => hk.2) (.int .i64 ((rd_T43 x0_1 x6_1).f0))) (fun _ hk => hk.2) (.int .i64 ((rd_T43 x0_1 x6_1).f1.f0))) (fun _ hk => hk.2) (.int .i64 ((rd_T43 x0_1 x6_1).f1.f1))) (fun _ h_ => h_.1))) hb); replace BK50 := zM (blk_below (g := g1_0) (o := .cells #[.slice A1_0 l1_0.length c1_0] 24 (0, 0)) blf_ hb); replace BK170 := zM (blk_below (g := gb170) (o := .cells #[.int .i64 ((rd_T43 x0_1 x6_1).f0), .int .i64 ((rd_T43 x0_1 x6_1).f1.f0), .int .i64 ((rd_T43 x0_1 x6_1).f1.f1)] 43 (0, 0)) (by (with_reducible repeat (first | refine zN ?_ _ | refine zD ?_ | refine zA ?_ _)); exact fx3_ BK170) hb); replace HK := zM (Kept.below (S := (fun k_ => P0_ k_)) (by repeat (first | (with_reducible first | exact HK.out | apply Kept.alloc | apply Kept.drewN | apply Kept.drew | refine Kept.setCell ?_ (.inr GW50.out) _ | refine Kept.setCell ?_ (.inr GW170.out) _) | exact HK.out)) hb); replace HB := zM (zB bel_ hb); (try clear hb); (try clear hb2); (try clear hk); (try clear hi)))
      (try simp only [← hl0_1])
      go_roundg k1
      case measure => have := HK1.out; omega
      case rel => exact ⟨(x0_1), (x5_1), (wrap64 (x6_1 + 1)), (by first | rfl | (simp; done) | (simp [*]; done) | (simp; grind)), (by first | rfl | (simp; done) | (simp [*]; done) | (simp; grind)), H', ⟨by have := HK1.out; omega⟩, ⟨by (try simp only [hl0_1]); (with_reducible repeat (first | apply Kd.R_alloc | apply Kd.R_drewN | apply Kd.R_drew)); exact Kd.R_mono HO_0.out (fun _ hk => hk.1)⟩, ⟨by (try simp only [hl0_1]); (with_reducible repeat (first | refine zN ?_ _ | refine zD ?_ | refine zA ?_ _)); exact BK50.out⟩, ⟨by repeat (first | (with_reducible first | exact HK.out | apply Kept.alloc | apply Kept.drewN | apply Kept.drew | refine Kept.setCell ?_ (.inr GW50.out) _ | refine Kept.setCell ?_ (.inr GW170.out) _) | exact HK.out)⟩, ⟨bel_⟩⟩
    replace c12 := Bool.eq_false_iff.mpr c12
    subst c12
    have H1 : (if 0 ≤ x5_1 then (if x5_1 < (x0_1.length : Int) then (api_Cell_90.l0 k1 (x0_1.set (x5_1 : Int).toNat (⟨(rd_T43 x0_1 x6_1).f0, (⟨(rd_T43 x0_1 x6_1).f1.f0, (rd_T43 x0_1 x6_1).f1.f1⟩ : S23)⟩ : S43)) (wrap64 (x5_1 + 1)) (wrap64 (x6_1 + 1)) l1_0) else (none)) else (none)) = some r := by rw [if_neg (show ¬ (false = true) by decide)] at H; exact H
    clear H
    have H := H1
    clear H1
    by_cases c17 : 0 ≤ x5_1
    rotate_left
    · rw [if_neg c17] at H
      exact absurd H (by simp)
    rw [if_pos c17] at H
    have c17b0 : decide (0 ≤ x5_1) = true := decide_eq_true c17
    clear c17
    by_cases c18 : x5_1 < (x0_1.length : Int)
    rotate_left
    · rw [if_neg c18] at H
      exact absurd H (by simp)
    rw [if_pos c18] at H
    have c18b0 : decide (x5_1 < (x0_1.length : Int)) = true := decide_eq_true c18
    clear c18
    obtain ⟨y172, hy172⟩ : ∃ y_ : List (S43), y_ = (x0_1.set (x5_1 : Int).toNat (⟨(rd_T43 x0_1 x6_1).f0, (⟨(rd_T43 x0_1 x6_1).f1.f0, (rd_T43 x0_1 x6_1).f1.f1⟩ : S23)⟩ : S43)) := ⟨_, rfl⟩
    replace H : (api_Cell_90.l0 k1 y172 (wrap64 (x5_1 + 1)) (wrap64 (x6_1 + 1)) l1_0) = some r := by first | (rw [hy172]; with_reducible exact H) | (have H2_ := (Option.bind_some _ _).symm.trans H; rw [hy172]; with_reducible exact H2_) | (have H2_ := (Option.bind_some _ _).symm.trans H; with_reducible exact H2_) | with_reducible exact H | (rw [hy172]; exact H) | exact H
    have Ny172 := zM hy172
    clear hy172
    have H' := zM H
    clear H
    have p169 : 0 ≤ (x6_1 : Int) := of_decide_eq_true (by first | (with_reducible assumption) | assumption)
    have q169 : x6_1 < (x0_1.length : Int) := of_decide_eq_true (by first | (with_reducible assumption) | assumption)
    obtain ⟨ad169, e169, hx169_0, hx169_1, hx169_2⟩ := at_T43 (Kd.R_reads' HO_0.out).2.2 x6_1 p169 q169
    cases e169
    replace p169 := eq_true p169
    replace q169 := eq_true q169
    go_wp2_with (first | ((with_reducible refine gate_dst (N := 7) rfl ?_); refine box_event ?hg (N := 7) ?hd (cs := #[.int .i64 0, .int .i64 0, .int .i64 0]) (t := 43) ?hr ?_; (case hd => rfl); (case hg => rfl); (case hr => first | (go_simp; done) | (go_simp; rfl)); intro gb170 hg w20 hbox hb; replace HO_0 := zM (Kd.R_below (Kd.R_elderB (rl_ HO_0) gb170 (Nat.le_of_eq hg.symm)) hb); have BK170 := zM (hbox); have GW170 := zM ((by rw [hg]; exact (by first | exact HK.out.1 | exact (show Kept w _ (fun k_ => P0_ k_) from by repeat (first | (with_reducible first | exact HK.out | apply Kept.alloc | apply Kept.drewN | apply Kept.drew | refine Kept.setCell ?_ (.inr GW50.out) _) | exact HK.out)).1) : w.heap.size ≤ gb170)); replace HK := zM (Kept.below (S := (fun k_ => P0_ k_)) (by repeat (first | (with_reducible first | exact HK.out | apply Kept.alloc | apply Kept.drewN | apply Kept.drew | refine Kept.setCell ?_ (.inr GW50.out) _) | exact HK.out)) hb); have GE170 := zM ((by rw [hg]; exact (below_size bel_) : w0.heap.size ≤ gb170)); replace HB := zM (zB bel_ hb); have NB50_170 := zM ((by rw [hg]; exact Nat.ne_of_lt (blk_lt (g := g1_0) (o := .cells #[.slice A1_0 l1_0.length c1_0] 24 (0, 0)) blk_) : g1_0 ≠ gb170)); have NB170_50 := zM ((by rw [hg]; exact Nat.ne_of_gt (blk_lt (g := g1_0) (o := .cells #[.slice A1_0 l1_0.length c1_0] 24 (0, 0)) blk_) : gb170 ≠ g1_0)); replace BK50 := zM (blk_below (g := g1_0) (o := .cells #[.slice A1_0 l1_0.length c1_0] 24 (0, 0)) blk_ hb); clear hb hbox hg; have hnb21 := NB170_50.out; have hnc21 := NB50_170.out; have hcz22_0 : w20.cell? ⟨gb170, 0, none⟩ = some (.int .i64 0) := (zL BK170.out 0).trans rfl; have hcz22_1 : w20.cell? ⟨gb170, 1, none⟩ = some (.int .i64 0) := (zL BK170.out 1).trans rfl; have hcz22_2 : w20.cell? ⟨gb170, 2, none⟩ = some (.int .i64 0) := (zL BK170.out 2).trans rfl; have hfz22_0 := zF BK170.out 0; have hfz22_1 := zF BK170.out 1; have hfz22_2 := zF BK170.out 2) | (go_at_call 91; (with_reducible refine (cells_News_1.calls k1 ((rd_T43 x0_1 x6_1).f0) ((rd_T43 x0_1 x6_1).f1.f0) ((rd_T43 x0_1 x6_1).f1.f1) g1_0 A1_0 c1_0 l1_0 false _ ?side1 ?side2 ?side3 A11.out).mono ?_); (case side1 => exact Kd.C_kept_now HR1_0.out (by repeat (first | (with_reducible first | exact HK.out | apply Kept.alloc | apply Kept.drewN | apply Kept.drew | refine Kept.setCell ?_ (.inr GW50.out) _ | refine Kept.setCell ?_ (.inr GW170.out) _) | exact HK.out))); (case side2 => exact HC1_0.out); (case side3 => exact blf_); rintro e w23 ⟨rfl, hb⟩; replace HO_0 := zM (Kd.R_below (by (with_reducible repeat (first | apply Kd.R_alloc | apply Kd.R_drewN | apply Kd.R_drew)); exact (Kd.R_mono (Kd.R_far (p := ⟨gb170, 2, none⟩) (Kd.R_far (p := ⟨gb170, 1, none⟩) (Kd.R_far (p := ⟨gb170, 0, none⟩) (Kd.R_mono HO_0.out (fun k_ hk => (⟨hk, hk.2⟩ : _ ∧ k_ ≠ gb170))) (fun _ hk => hk.2) (.int .i64 ((rd_T43 x0_1 x6_1).f0))) (fun _ hk => hk.2) (.int .i64 ((rd_T43 x0_1 x6_1).f1.f0))) (fun _ hk => hk.2) (.int .i64 ((rd_T43 x0_1 x6_1).f1.f1))) (fun _ h_ => h_.1))) hb); replace BK50 := zM (blk_below (g := g1_0) (o := .cells #[.slice A1_0 l1_0.length c1_0] 24 (0, 0)) blf_ hb); replace BK170 := zM (blk_below (g := gb170) (o := .cells #[.int .i64 ((rd_T43 x0_1 x6_1).f0), .int .i64 ((rd_T43 x0_1 x6_1).f1.f0), .int .i64 ((rd_T43 x0_1 x6_1).f1.f1)] 43 (0, 0)) (by (with_reducible repeat (first | refine zN ?_ _ | refine zD ?_ | refine zA ?_ _)); exact fx3_ BK170) hb); replace HK := zM (Kept.below (S := (fun k_ => P0_ k_)) (by repeat (first | (with_reducible first | exact HK.out | apply Kept.alloc | apply Kept.drewN | apply Kept.drew | refine Kept.setCell ?_ (.inr GW50.out) _ | refine Kept.setCell ?_ (.inr GW170.out) _) | exact HK.out)) hb); replace HB := zM (zB bel_ hb); (try clear hb); (try clear hb2); (try clear hk); (try clear hi); have hcz24_0 : w23.cell? ⟨gb170, 0, none⟩ = some (.int .i64 ((rd_T43 x0_1 x6_1).f0)) := (zL BK170.out 0).trans rfl; have hcz24_1 : w23.cell? ⟨gb170, 1, none⟩ = some (.int .i64 ((rd_T43 x0_1 x6_1).f1.f0)) := (zL BK170.out 1).trans rfl; have hcz24_2 : w23.cell? ⟨gb170, 2, none⟩ = some (.int .i64 ((rd_T43 x0_1 x6_1).f1.f1)) := (zL BK170.out 2).trans rfl; have hfz24_0 := zF BK170.out 0; have hfz24_1 := zF BK170.out 1; have hfz24_2 := zF BK170.out 2; have p19 : 0 ≤ (x5_1 : Int) := of_decide_eq_true (by first | (with_reducible assumption) | assumption); have q19 : (x5_1 : Int) < ((x0_1.length : Int) : Int) := of_decide_eq_true (by first | (with_reducible assumption) | assumption); obtain ⟨go19, co19, eo19, gb19, gl19, cl19, HG19⟩ := Kd.R_form HO_0.out (by omega); (first | cases eo19 | (injection eo19 with ea_ en_ ec_; (first | subst ea_ | (injection ea_ with ea_; subst ea_)); subst ec_; clear en_)); have GB19 := zM gb19; have GG19 := zM HG19; clear gb19 gl19 HG19; have HMgo19 := zM (show (P0_ go19 ∨ w.heap.size ≤ go19) from (HO_0.out.1 _ rfl).1); (first | simp only [add_plain] at hx169_0 | skip); (first | simp only [add_plain] at hx169_1 | skip); (first | simp only [add_plain] at hx169_2 | skip); obtain ⟨ce19, hcl19, hM19, hcc19, hfr19⟩ := Kd.R_elem HO_0.out z43 (x5_1 : Int) p19 q19; obtain rfl := k43_openM hM19; have hx19_0 : w23.cell? ⟨go19, (x5_1 : Int).toNat * 3, none⟩ = some (.int .i64 ((rd_T43 x0_1 x5_1).f0)) := hcc19 0 _ rfl; have hx19_1 : w23.cell? ⟨go19, (x5_1 : Int).toNat * 3 + 1, none⟩ = some (.int .i64 ((rd_T43 x0_1 x5_1).f1.f0)) := hcc19 1 _ rfl; have hx19_2 : w23.cell? ⟨go19, (x5_1 : Int).toNat * 3 + 2, none⟩ = some (.int .i64 ((rd_T43 x0_1 x5_1).f1.f1)) := hcc19 2 _ rfl; have hf19_0 : w23.frozen? ⟨go19, (x5_1 : Int).toNat * 3, none⟩ = false := hfr19 0; have hf19_1 : w23.frozen? ⟨go19, (x5_1 : Int).toNat * 3 + 1, none⟩ = false := hfr19 1; have hf19_2 : w23.frozen? ⟨go19, (x5_1 : Int).toNat * 3 + 2, none⟩ = false := hfr19 2; clear hcl19 hcc19 hfr19 hM19; replace p19 := eq_true p19; replace q19 := eq_true q19; have HX25 := zM (show Kd.R k43 43 w23 w0.heap.size (fun k_ => (P0_ k_ ∨ w.heap.size ≤ k_) ∧ k_ ≠ gb170) (.slice (some ⟨go19, 0, none⟩) x0_1.length co7) x0_1 from (rl_ HO_0)); obtain ⟨ce25, hcl25, hM25, hcc25, hfr25⟩ := Kd.R_elem HX25.out z43 (x5_1 : Int) (of_decide_eq_true (by first | (with_reducible assumption) | assumption)) (by have h_ : (x5_1 : Int) < ((x0_1.length : Int) : Int) := of_decide_eq_true (by first | (with_reducible assumption) | assumption); first | exact h_ | (have e_ := (Kd.R_reads' HO_0.out).1; omega) | simpa using h_); obtain rfl := k43_openM hM25; have HP25 := Kd.R_seg HX25.out (x5_1 : Int) (of_decide_eq_true (by first | (with_reducible assumption) | assumption)) (by have h_ : (x5_1 : Int) < ((x0_1.length : Int) : Int) := of_decide_eq_true (by first | (with_reducible assumption) | assumption); first | exact h_ | (have e_ := (Kd.R_reads' HO_0.out).1; omega) | simpa using h_) (seg := [.int .i64 ((rd_T43 x0_1 x6_1).f0), .int .i64 ((rd_T43 x0_1 x6_1).f1.f0), .int .i64 ((rd_T43 x0_1 x6_1).f1.f1)]) (j := 0) hcl25 hcc25 (show 3 ≤ 3 from by decide) (x' := (⟨(rd_T43 x0_1 x6_1).f0, (⟨(rd_T43 x0_1 x6_1).f1.f0, (rd_T43 x0_1 x6_1).f1.f1⟩ : S23)⟩ : S43)) (k43_mkM _ _ _ (⟨(rd_T43 x0_1 x6_1).f0, (⟨(rd_T43 x0_1 x6_1).f1.f0, (rd_T43 x0_1 x6_1).f1.f1⟩ : S23)⟩ : S43) ) (fun _ hk => hk); have hx25_0 := hcc25 0 _ rfl; (try simp only [show (k43).sz = 3 from rfl, Nat.mul_one, Nat.add_zero] at hx25_0); have hf25_0 := hfr25 0; (try simp only [show (k43).sz = 3 from rfl, Nat.mul_one, Nat.add_zero] at hf25_0); have hx25_1 := hcc25 1 _ rfl; (try simp only [show (k43).sz = 3 from rfl, Nat.mul_one, Nat.add_zero] at hx25_1); have hf25_1 := hfr25 1; (try simp only [show (k43).sz = 3 from rfl, Nat.mul_one, Nat.add_zero] at hf25_1); have hx25_2 := hcc25 2 _ rfl; (try simp only [show (k43).sz = 3 from rfl, Nat.mul_one, Nat.add_zero] at hx25_2); have hf25_2 := hfr25 2; (try simp only [show (k43).sz = 3 from rfl, Nat.mul_one, Nat.add_zero] at hf25_2); clear hcl25 hcc25 hfr25 hM25) | ((with_reducible refine gate_store (t := 43) (p := 33) rfl ?_); refine store_event (t := 43) (p := 33) (v := ?vo_w26) (w1 := (((w23.setCell ⟨go19, (x5_1 : Int).toNat * 3, none⟩ (.int .i64 ((rd_T43 x0_1 x6_1).f0))).setCell ⟨go19, (x5_1 : Int).toNat * 3 + 1, none⟩ (.int .i64 ((rd_T43 x0_1 x6_1).f1.f0))).setCell ⟨go19, (x5_1 : Int).toNat * 3 + 2, none⟩ (.int .i64 ((rd_T43 x0_1 x6_1).f1.f1)))) ?hg ?ho ?hn ?hr ?_; (case ho => rfl); (case hg => rfl); (case hn => rfl); (case hr => first | (go_simp; done) | (go_simp; rfl)); intro w26 hw; have hg : w23.grownBy w26 (some go19) := (by rw [hw]; exact HP25.2); have hp_ : Kd.R k43 43 w26 w0.heap.size (fun k_ => (P0_ k_ ∨ w.heap.size ≤ k_) ∧ k_ ≠ gb170) (.slice (some ⟨go19, 0, none⟩) x0_1.length co7) y172 := (by rw [hw, Ny172.out]; exact HP25.1); clear HP25; have n0_ := zM (hp_); have n1_ := zM (blk_grown (g := g1_0) (o := .cells #[.slice A1_0 l1_0.length c1_0] 24 (0, 0)) blk_ hg (Kd.R_ne HO_0.out BK50.out (by decide))); have n2_ := zM (blk_grown (g := gb170) (o := .cells #[.int .i64 ((rd_T43 x0_1 x6_1).f0), .int .i64 ((rd_T43 x0_1 x6_1).f1.f0), .int .i64 ((rd_T43 x0_1 x6_1).f1.f1)] 43 (0, 0)) blk_ hg (Kd.R_away HO_0.out (fun _ hk => hk.2))); have n3_ := zM ((by rw [hw]; exact below_set (below_set (below_set (HB.out) GB19.out) GB19.out) GB19.out : Below w0.heap.size w0 w26)); have n4_ := zM (Kept.of_grown (S := (fun k_ => P0_ k_)) hg (by repeat (first | (with_reducible first | exact HK.out | apply Kept.alloc | apply Kept.drewN | apply Kept.drew | refine Kept.setCell ?_ (.inr GW50.out) _ | refine Kept.setCell ?_ (.inr GW170.out) _) | exact HK.out)) (fun k_ e_ => (HO_0.out.1 k_ e_).1)); clear HO_0; clear BK50; clear BK170; clear HB; clear HK; have HO_0 := n0_; have BK50 := n1_; have BK170 := n2_; have HB := n3_; have HK := n4_; clear n0_ n1_ n2_ n3_ n4_; clear hg hw hp_))
    (try simp only [← hl0_1])
    go_roundg k1
    case measure => have := HK1.out; omega
    case rel => exact ⟨(y172), (wrap64 (x5_1 + 1)), (wrap64 (x6_1 + 1)), (by first | rfl | (simp; done) | (simp [*]; done) | (simp; grind)), (by first | rfl | (simp; done) | (simp [*]; done) | (simp; grind)), H', ⟨by have := HK1.out; omega⟩, ⟨by (try simp only [hl0_1]); (with_reducible repeat (first | apply Kd.R_alloc | apply Kd.R_drewN | apply Kd.R_drew)); exact Kd.R_mono HO_0.out (fun _ hk => hk.1)⟩, ⟨by (try simp only [hl0_1]); (with_reducible repeat (first | refine zN ?_ _ | refine zD ?_ | refine zA ?_ _)); exact BK50.out⟩, ⟨by repeat (first | (with_reducible first | exact HK.out | apply Kept.alloc | apply Kept.drewN | apply Kept.drew | refine Kept.setCell ?_ (.inr GW50.out) _ | refine Kept.setCell ?_ (.inr GW170.out) _) | exact HK.out)⟩, ⟨bel_⟩⟩
/-! ### cells_News: function 71 -/
def cells_News.f (k : Nat) (l0 : List (S43)) (l1 : List (S43)) : Option ((List (S43))) := (api_Cell_44.f l1).bind fun t182 => ((api_Cell_90.f k t182 l0).bind fun t185 => (some t185))
theorem cells_News.mono : ∀ a0 a1 k, LeO (cells_News.f k a0 a1) (cells_News.f (k + 1) a0 a1) := by
  intro a0 a1 k
  unfold cells_News.f
  repeat' first
      | (with_reducible exact api_Cell_90.mono _ _ _)
      | (with_reducible exact LeO.refl _)
      | (with_reducible exact LeO.none _)
      | (with_reducible refine LeO.ite ?_ ?_)
      | (with_reducible refine LeO.bind ?_ (fun _ => ?_))
      | exact api_Cell_90.mono _ _ _
      | exact LeO.none _
      | refine LeO.ite ?_ ?_
      | refine LeO.bind ?_ (fun _ => ?_)
set_option maxHeartbeats 8000000 in
set_option maxRecDepth 100000 in
theorem cells_News.calls (k : Nat) (A0 : Option Addr) (c0 : Nat) (l0 : List (S43)) (A1 : Option Addr) (c1 : Nat) (l1 : List (S43)) (r : List (S43)) (w : World) (hr0 : Kd.C k43 w A0 l0.length l0) (hc0 : l0.length ≤ c0) (hr1 : Kd.C k43 w A1 l1.length l1) (hc1 : l1.length ≤ c1) (h : cells_News.f k l0 l1 = some r) :
    Calls Try.prog 71 #[.slice A0 l0.length c0, .slice A1 l1.length c1] w fun e w' => ∃ v0_ : Value, e = .returned (v0_) ∧ Kd.R k43 43 w' w.heap.size (fun _ => True) v0_ r ∧ Below w.heap.size w w' := by
  have HR0 := zM hr0
  have HC0 := zM hc0
  clear hr0 hc0
  have HR1 := zM hr1
  have HC1 := zM hc1
  clear hr1 hc1
  have HB := zM (Below.refl w.heap.size w)
  have H : ((api_Cell_44.f l1).bind fun t182 => ((api_Cell_90.f k t182 l0).bind fun t185 => (some t185))) = some r := h
  clear h
  replace H := Option.bind_eq_some_iff.mp H
  obtain ⟨t182, A30, H⟩ := H
  replace H : ((api_Cell_90.f k t182 l0).bind fun t185 => (some t185)) = some r := H
  have A3 := zM A30
  clear A30
  replace H := Option.bind_eq_some_iff.mp H
  obtain ⟨t185, A40, H⟩ := H
  replace H : (some t185) = some r := H
  have A4 := zM A40
  clear A40
  obtain rfl := Option.some.inj H
  go_enter Try.func71, Try.ntmps71
  go_wp2_with (first | ((with_reducible refine gate_dst (N := 2) rfl ?_); refine box_event ?hg (N := 2) ?hd (cs := #[.slice A0 l0.length c0]) (t := 24) ?hr ?_; (case hd => rfl); (case hg => rfl); (case hr => first | (go_simp; done) | (go_simp; rfl)); intro gb181 hg w5 hbox hb; have BK181 := zM (hbox); have GW181 := zM (bs_ hg); have GE181 := zM (bs_ hg); replace HB := zM (zB bel_ hb); clear hb hbox hg) | ((with_reducible refine gate_callee (f := 44) rfl ?_); refine goL_ (some 6) Try.func44 #[.slice A1 l1.length c1] ?_; (with_reducible refine (api_Cell_44.calls _ _ l1 t182 _ ?side1 ?side2 A3.out).mono ?_); (case side1 => repeat (first | exact (Kd.C_below HR1.out HB.out) | (with_reducible refine Kd.C_alloc ?_ _) | (with_reducible refine Kd.C_drewN ?_ _) | (with_reducible refine Kd.C_drew ?_))); (case side2 => exact HC1.out); rintro e w6 ⟨v183, rfl, ho0, hb⟩; refine ⟨_, rfl, ?_⟩; have HO184 := zM (Kd.R_lower ho0 (below_size bel_)); replace BK181 := zM (bb_ BK181 hb); replace HB := zM (zB bel_ hb); (try clear hb); (try clear hb2); (try clear hk); (try clear hi); (try clear ho0); obtain ⟨Ao7, co7, eo7⟩ := Kd.R_slice HO184.out; subst eo7) | ((with_reducible refine gate_callee (f := 90) rfl ?_); refine goL_ (some 8) Try.func90 #[.slice Ao7 t182.length co7, .func (.func 91) #[] #[.pointer (some ⟨gb181, 0, none⟩)]] ?_; (with_reducible refine (api_Cell_90.calls k (fun k_ => some k_ = (.slice Ao7 t182.length co7 : Value).ownBlock) (.slice Ao7 t182.length co7) t182 gb181 A0 c0 l0 t185 w _ ?side1 ?side2 ?side3 ?side4 ?side5 A4.out).mono ?_); (case side1 => repeat (first | (with_reducible first | exact HB.out | apply below_alloc | apply pw_below_drewN | apply below_drew1 | refine below_set ?_ GE181.out) | exact HB.out)); (case side2 => exact Kd.R_tight rfl HO184.out); (case side3 => exact Kd.C_kept_came k43_heap HR0.out bel_ (fun k_ hs_ => (fun e_ => Kd.R_base HO184.out k_ e_.symm) hs_)); (case side4 => exact HC0.out); (case side5 => exact blf_); rintro e w8 ⟨v186, rfl, ho0, hb, hkp⟩; refine ⟨_, rfl, ?_⟩; replace BK181 := zM (blk_kept blk_ hkp (fun hs_ => (fun e_ => (Kd.R_ne HO184.out BK181.out (by decide)) e_) hs_)); have HO187 := zM (Kd.R_mono (ok' := fun k_ => True) ho0 (fun k_ hk_ => trivial)); replace HB := zM (hb); clear HO184; (try clear hb); (try clear hkp); (try clear ho0)))
  go_ret
  exact ⟨_, by first | rfl | (simp [errW_none, errW_some] <;> rfl) | (simp [*, errW_none, errW_some] <;> rfl), by (with_reducible repeat (first | apply Kd.R_alloc | apply Kd.R_drewN | apply Kd.R_drew)); exact HO187.out, bel_⟩
/-! ### cmp_isNaN_int: function 95 -/
def cmp_isNaN_int.f (a0 : Int) : Option (Bool) := some (a0 != a0)
set_option maxHeartbeats 8000000 in
set_option maxRecDepth 100000 in
theorem cmp_isNaN_int.calls (a0 : Int) (r : Bool) (w : World) (h : cmp_isNaN_int.f a0 = some r) :
    Calls Try.prog 95 #[.int .i64 a0] w fun e w' => e = .returned (.bool r) ∧ Drawn0 w w' := by
  have H : (some (a0 != a0)) = some r := h
  clear h
  obtain rfl := Option.some.inj H
  go_enter Try.func95, Try.ntmps95
  go_wp2
  go_ret
  exact ⟨by first | rfl | (simp; done) | (simp [*]; done) | (simp; grind), by repeat (first | exact Drawn0.refl _ | apply Drawn0.step)⟩
end Go.Proofs.Ytmgiaappokkjfaa.PRoundStays
