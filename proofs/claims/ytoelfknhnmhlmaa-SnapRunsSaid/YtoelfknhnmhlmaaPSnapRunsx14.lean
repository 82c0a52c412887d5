/- What the code that the law SnapRuns reaches computes (written by a program of this session). -/
import Derived.Test.YtoelfknhnmhlmaaSSnapRunsXWEnd
import Derived.Test.YtoelfknhnmhlmaaPSnapRunsx0
import Derived.Test.YtoelfknhnmhlmaaPSnapRunsx1
import Derived.Test.YtoelfknhnmhlmaaPSnapRunsx3
import Derived.Test.YtoelfknhnmhlmaaPSnapRunsx6
import Derived.Test.YtoelfknhnmhlmaaPSnapRunsx7
import Derived.Test.YtoelfknhnmhlmaaPSnapRunsx8
import Derived.Test.YtoelfknhnmhlmaaPSnapRunsx10
import Derived.Test.YtoelfknhnmhlmaaPSnapRunsx11
namespace Go.Proofs.Ytoelfknhnmhlmaa.PSnapRuns
open Go.RowKit Go.Proofs.YtoelfknhnmhlmaaX Go.Proofs.YtoelfknhnmhlmaaW.PrintWords Go.Proofs.YtoelfknhnmhlmaaW.PrintLast Go.Proofs.YtoelfknhnmhlmaaW.PrintMore
open List renaming setIfInBounds_toArray → zS, set_cons_zero → zZ, set_cons_succ → zC
open Go.Proofs.YtoelfknhnmhlmaaW.PrintWords renaming blk_drewN → zN, blk_drew → zD, blk_alloc → zA, blk_cell → zL, below_step → zB
open Go.Proofs.YtoelfknhnmhlmaaW.PrintWords.Aside0 renaming mk → zM
attribute [local go_sem] max2_int min2_int max_two min_two max_three min_three max_four min_four
set_option linter.unusedVariables false
set_option linter.unusedSimpArgs false

attribute [local go_sem] px_nilq27
attribute [local go_sem high] eqA26
set_option maxHeartbeats 8000000 in
set_option maxRecDepth 100000 in
theorem ropewaylaw15_SnapRuns_t.calls (k : Nat)  (a1_0 : Int) (a1_1 : Int) (a1_2 : Int) (A2 : Option Addr) (c2 : Nat) (l2 : List (List (S34))) (r : Bool) (w : World) (hr2 : Kd.C (Kd.slice 34 k34) w A2 l2.length l2) (hc2 : l2.length ≤ c2) (hr1_ : Aside0 (r = true)) (h : ropewaylaw15_SnapRuns_t.f k a1_0 a1_1 a1_2 l2 = some r) :
    Calls Try.prog 4 #[.bool true, .agg #[.int .i64 a1_0, .int .i64 a1_1, .int .i64 a1_2], .slice A2 l2.length c2] w fun e w' => e = .returned (.bool r) ∧ Below w.heap.size w w' := by
  have hu34 := Try.underlying34
  have hu26 := Try.underlying26
  have hu38 := Try.underlying38
  have HR2 := zM hr2
  have HC2 := zM hc2
  clear hr2 hc2
  have HB := zM (Below.refl w.heap.size w)
  have H : ((ropewaylaw15_snapAlive.f k).bind fun t259 => (if t259 = true then (if (l2.length : Int) > 20 then (ropewaylaw15_SnapRuns_t.j0 k l2 true a1_0 a1_1 a1_2) else (if a1_0 < 0 then (ropewaylaw15_SnapRuns_t.j0 k l2 true a1_0 a1_1 a1_2) else (if a1_0 > 5 then (ropewaylaw15_SnapRuns_t.j0 k l2 true a1_0 a1_1 a1_2) else ((ropewayref04_Right.f a1_1 a1_2).bind fun t260 => (if t260 = true then (ropewaylaw15_SnapRuns_t.j0 k l2 (a1_1 == 0 && (a1_2 == 0)) a1_0 a1_1 a1_2) else (ropewaylaw15_SnapRuns_t.j0 k l2 true a1_0 a1_1 a1_2)))))) else (some false))) = some r := h
  clear h
  go_enter Try.func4, Try.ntmps4
  have tk5 : True := trivial
  go_upto_region 1 with (first | ((with_reducible refine gate_dst (N := 4) rfl ?_); clear tk5; (try (refine gate_guard (by rfl) ?_; dsimp only)); refine box_event ?hg (N := 4) ?hd (cs := #[.int .i64 a1_0, .int .i64 a1_1, .int .i64 a1_2]) (t := 34) ?hr ?_; (case hd => rfl); (case hg => rfl); (case hr => first | (go_simp; done) | (go_simp; rfl)); intro gb258 hg w4 hbox hb; have BK258 := zM (hbox); have GW258 := zM (bs_ hg); have GE258 := zM (bs_ hg); replace HB := zM (zB bel_ hb); clear hb hbox hg))
  replace H := Option.bind_eq_some_iff.mp H
  obtain ⟨t259, A60, H⟩ := H
  replace H : (if t259 = true then (if (l2.length : Int) > 20 then (ropewaylaw15_SnapRuns_t.j0 k l2 true a1_0 a1_1 a1_2) else (if a1_0 < 0 then (ropewaylaw15_SnapRuns_t.j0 k l2 true a1_0 a1_1 a1_2) else (if a1_0 > 5 then (ropewaylaw15_SnapRuns_t.j0 k l2 true a1_0 a1_1 a1_2) else ((ropewayref04_Right.f a1_1 a1_2).bind fun t260 => (if t260 = true then (ropewaylaw15_SnapRuns_t.j0 k l2 (a1_1 == 0 && (a1_2 == 0)) a1_0 a1_1 a1_2) else (ropewaylaw15_SnapRuns_t.j0 k l2 true a1_0 a1_1 a1_2)))))) else (some false)) = some r := H
  have A6 := zM A60
  clear A60
  by_cases c7 : t259 = true
  rotate_left
  ·
   replace c7 := Bool.eq_false_iff.mpr c7
   subst c7
   have H1 : (some false) = some r := by rw [if_neg (show ¬ (false = true) by decide)] at H; exact H
   clear H
   have H := H1
   clear H1
   have tk480 : True := trivial
   go_upto_region 2 with (first | ((with_reducible refine gate_callee (f := 10) rfl ?_); clear tk480; refine goL_ (some 26) Try.func10 #[] ?_; (with_reducible refine (ropewaylaw15_snapAlive.calls k  false _ A6.out).mono ?_); rintro e w479 ⟨rfl, hb⟩; refine ⟨_, rfl, ?_⟩; replace BK258 := zM (bb_ BK258 hb); replace HB := zM (zB bel_ hb); (try clear hb); (try clear hi)))
   exact absurd (Option.some.inj H) (by rw [hr1_.out]; decide)
  as_aux_lemma =>
   subst c7
   have H1 : (if (l2.length : Int) > 20 then (ropewaylaw15_SnapRuns_t.j0 k l2 true a1_0 a1_1 a1_2) else (if a1_0 < 0 then (ropewaylaw15_SnapRuns_t.j0 k l2 true a1_0 a1_1 a1_2) else (if a1_0 > 5 then (ropewaylaw15_SnapRuns_t.j0 k l2 true a1_0 a1_1 a1_2) else ((ropewayref04_Right.f a1_1 a1_2).bind fun t260 => (if t260 = true then (ropewaylaw15_SnapRuns_t.j0 k l2 (a1_1 == 0 && (a1_2 == 0)) a1_0 a1_1 a1_2) else (ropewaylaw15_SnapRuns_t.j0 k l2 true a1_0 a1_1 a1_2)))))) = some r := by rw [if_pos rfl] at H; exact H
   clear H
   have H := H1
   clear H1
   have tk9 : True := trivial
   go_upto_region 3 with (first | ((with_reducible refine gate_callee (f := 10) rfl ?_); clear tk9; refine goL_ (some 26) Try.func10 #[] ?_; (with_reducible refine (ropewaylaw15_snapAlive.calls k  true _ A6.out).mono ?_); rintro e w8 ⟨rfl, hb⟩; refine ⟨_, rfl, ?_⟩; replace BK258 := zM (bb_ BK258 hb); replace HB := zM (zB bel_ hb); (try clear hb); (try clear hi)))
   have HC10 := zM H
   clear H
   go_upto_region 3 with (fail)
   (try simp only [Act.put, zS, zZ, zC])
   go_cut [52] (fun v52 wc => ∃ (kq : Nat) (x52_9 : Bool), v52 = .bool x52_9 ∧ Aside0 (ropewaylaw15_SnapRuns_t.j0 kq l2 x52_9 a1_0 a1_1 a1_2 = some r) ∧ Aside0 (kq ≤ k) ∧ Aside0 (wc.heap[gb258]? = some (.cells #[.int .i64 a1_0, .int .i64 a1_1, .int .i64 a1_2] 34 (0, 0))) ∧ Aside0 (Below w.heap.size w wc))
   case first =>
    have H := HC10.out
    clear HC10
    by_cases c11 : (l2.length : Int) > 20
    ·
     rw [if_pos c11] at H
     have c11b0 : decide (20 < (l2.length : Int)) = true := decide_eq_true c11
     have c11b1 : decide (20 < l2.length) = true := decide_eq_true (by omega)
     clear c11
     (first | rw [c11b0] | (simp only [i64_w, i32_w]; rw [c11b0]) | skip)
     have H' := zM H
     clear H
     go_wp2
     go_meet
     case rel => exact ⟨_, (true), (by first | rfl | (simp; done) | (simp [*]; done) | (simp; grind)), H', ⟨by first | omega | exact Nat.le_refl _⟩, ⟨blf_⟩, ⟨bel_⟩⟩
    rw [if_neg c11] at H
    have c11b0 : decide (20 < (l2.length : Int)) = false := decide_eq_false c11
    have c11b1 : decide (20 < l2.length) = false := decide_eq_false (by omega)
    clear c11
    (first | rw [c11b0] | (simp only [i64_w, i32_w]; rw [c11b0]) | skip)
    by_cases c12 : a1_0 < 0
    ·
     rw [if_pos c12] at H
     have c12b0 : decide (a1_0 < 0) = true := decide_eq_true c12
     clear c12
     have H' := zM H
     clear H
     have hcz13 := rf3_ BK258.out
     go_wp2
     go_meet
     case rel => exact ⟨_, (true), (by first | rfl | (simp; done) | (simp [*]; done) | (simp; grind)), H', ⟨by first | omega | exact Nat.le_refl _⟩, ⟨blf_⟩, ⟨bel_⟩⟩
    rw [if_neg c12] at H
    have c12b0 : decide (a1_0 < 0) = false := decide_eq_false c12
    clear c12
    by_cases c14 : a1_0 > 5
    ·
     rw [if_pos c14] at H
     have c14b0 : decide (5 < a1_0) = true := decide_eq_true c14
     clear c14
     have H' := zM H
     clear H
     have hcz15 := rf3_ BK258.out
     go_wp2
     go_meet
     case rel => exact ⟨_, (true), (by first | rfl | (simp; done) | (simp [*]; done) | (simp; grind)), H', ⟨by first | omega | exact Nat.le_refl _⟩, ⟨blf_⟩, ⟨bel_⟩⟩
    rw [if_neg c14] at H
    have c14b0 : decide (5 < a1_0) = false := decide_eq_false c14
    clear c14
    replace H := Option.bind_eq_some_iff.mp H
    obtain ⟨t260, A160, H⟩ := H
    replace H : (if t260 = true then (ropewaylaw15_SnapRuns_t.j0 k l2 (a1_1 == 0 && (a1_2 == 0)) a1_0 a1_1 a1_2) else (ropewaylaw15_SnapRuns_t.j0 k l2 true a1_0 a1_1 a1_2)) = some r := H
    have A16 := zM A160
    clear A160
    by_cases c17 : t260 = true
    rotate_left
    ·
     replace c17 := Bool.eq_false_iff.mpr c17
     subst c17
     have H1 : (ropewaylaw15_SnapRuns_t.j0 k l2 true a1_0 a1_1 a1_2) = some r := by rw [if_neg (show ¬ (false = true) by decide)] at H; exact H
     clear H
     have H := H1
     clear H1
     have H' := zM H
     clear H
     have hcz22 := rf3_ BK258.out
     have tk24 : True := trivial
     go_wp2_with (first | (go_at_call 13; (with_reducible refine (ropewayref04_Right.calls a1_1 a1_2 false _ A16.out).mono ?_); clear tk24; rintro e w23 ⟨rfl, hb⟩; replace BK258 := zM (bb_ BK258 hb); replace HB := zM (zB bel_ hb); (try clear hb); (try clear hi)))
     go_meet
     case rel => exact ⟨_, (true), (by first | rfl | (simp; done) | (simp [*]; done) | (simp; grind)), H', ⟨by first | omega | exact Nat.le_refl _⟩, ⟨blf_⟩, ⟨bel_⟩⟩
    subst c17
    have H1 : (ropewaylaw15_SnapRuns_t.j0 k l2 (a1_1 == 0 && (a1_2 == 0)) a1_0 a1_1 a1_2) = some r := by rw [if_pos rfl] at H; exact H
    clear H
    have H := H1
    clear H1
    have H' := zM H
    clear H
    have hcz18 := rf3_ BK258.out
    have tk20 : True := trivial
    go_wp2_with (first | (go_at_call 13; (with_reducible refine (ropewayref04_Right.calls a1_1 a1_2 true _ A16.out).mono ?_); clear tk20; rintro e w19 ⟨rfl, hb⟩; replace BK258 := zM (bb_ BK258 hb); replace HB := zM (zB bel_ hb); (try clear hb); have hcz21 := rf3_ BK258.out))
    go_meet
    case rel => exact ⟨_, ((a1_1 == 0 && (a1_2 == 0))), (by first | rfl | (simp; done) | (simp [*]; done) | (simp; grind)), H', ⟨by first | omega | exact Nat.le_refl _⟩, ⟨blf_⟩, ⟨bel_⟩⟩
   case rest => as_aux_lemma =>
    clear HC10
    try clear c2
    try clear c7
    try clear c11
    try clear c11b0
    try clear c11b1
    try clear c12
    try clear c12b0
    try clear c14
    try clear c14b0
    try clear c17
    try clear hcz13
    try clear hcz15
    try clear hcz18
    try clear hcz21
    try clear hcz22
    obtain ⟨kq, x52_9, rfl, HA, HJ9, BK258, HB⟩ := hcut
    cases kq with
    | zero => exact absurd HA.out (by simp [ropewaylaw15_SnapRuns_t.j0])
    | succ kj9 =>
     have H := HA.out
     clear HA
     simp only [ropewaylaw15_SnapRuns_t.j0] at H
     by_cases c25 : x52_9 = true
     ·
      subst c25
      have H1 : (some true) = some r := by rw [if_pos rfl] at H; exact H
      clear H
      have H := H1
      clear H1
      obtain rfl := Option.some.inj H
      go_wp2
      go_ret
      exact ⟨by first | rfl | (simp [errW_none, errW_some] <;> rfl) | (simp [*, errW_none, errW_some] <;> rfl), bel_⟩
     replace c25 := Bool.eq_false_iff.mpr c25
     subst c25
     have H1 : (ropewaylaw15_SnapRuns_t.l0 kj9 l2 (l2.length : Int) 0 (([(⟨a1_0, (⟨a1_1, a1_2⟩ : S26)⟩ : S34)] : List (S34))) 0 ([] : List (S34)) true a1_0 a1_1 a1_2 ([] : List (List (S34)))) = some r := by rw [if_neg (show ¬ (false = true) by decide)] at H; exact H
     clear H
     have H := H1
     clear H1
     have tk26 : True := trivial
     have tk28 : True := trivial
     have tk29 : True := trivial
     go_upto_region 6 with (first | ((with_reducible refine gate_callee (f := 7) rfl ?_); clear tk26; refine goL_ (some 53) Try.func7 #[] ?_; go_enter Try.func7, Try.ntmps7) | ((with_reducible refine gate_dst (N := 2) rfl ?_); clear tk28; (try (refine gate_guard (by rfl) ?_; dsimp only)); refine box_event ?hg (N := 2) ?hd (cs := #[.slice none 0 0, .int .i64 0, .slice none 0 0]) (t := 61) ?hr ?_; (case hd => rfl); (case hg => rfl); (case hr => first | (go_simp; done) | (go_simp; rfl)); intro gb261 hg w27 hbox hb; have BK261 := zM (hbox); have GW261 := zM (bs_ hg); have GE261 := zM (bs_ hg); replace HB := zM (zB bel_ hb); have NB258_261 := zM (nl_ BK258 hg); have NB261_258 := zM (ng_ BK258 hg); replace BK258 := zM (bb_ BK258 hb); clear hb hbox hg) | (clear tk29; (first | go_ret | go_ret2 | go_ret3 | go_end0); with_reducible refine inl_back_ ?_))
     obtain ⟨y263, hy263⟩ : ∃ y_ : List (S34), y_ = (([(⟨a1_0, (⟨a1_1, a1_2⟩ : S26)⟩ : S34)] : List (S34))) := ⟨_, rfl⟩
     replace H : (ropewaylaw15_SnapRuns_t.l0 kj9 l2 (l2.length : Int) 0 y263 0 ([] : List (S34)) true a1_0 a1_1 a1_2 ([] : List (List (S34)))) = some r := by first | (rw [hy263]; with_reducible exact H) | (have H2_ := (Option.bind_some _ _).symm.trans H; rw [hy263]; with_reducible exact H2_) | (have H2_ := (Option.bind_some _ _).symm.trans H; with_reducible exact H2_) | with_reducible exact H | (rw [hy263]; exact H) | exact H
     have Ny263 := zM hy263
     clear hy263
     have hnb30 := NB258_261.out
     have hnc30 := NB261_258.out
     have hcz31 := rf3_ BK258.out
     have tk32 : True := trivial
     have tk34 : True := trivial
     have tk40 : True := trivial
     have tk43 : True := trivial
     have tk44 : True := trivial
     go_upto_region 8 with (first | ((with_reducible refine gate_callee (f := 8) rfl ?_); clear tk32; refine goL_ (some 59) Try.func8 #[.int .i64 a1_0, .agg #[.int .i64 a1_1, .int .i64 a1_2]] ?_; go_enter Try.func8, Try.ntmps8) | ((with_reducible refine gate_dst (N := 3) rfl ?_); clear tk34; (try (refine gate_guard (by rfl) ?_; dsimp only)); refine box_event ?hg (N := 3) ?hd (cs := #[.int .i64 a1_1, .int .i64 a1_2]) (t := 26) ?hr ?_; (case hd => rfl); (case hg => rfl); (case hr => first | (go_simp; done) | (go_simp; rfl)); intro gb262 hg w33 hbox hb; have BK262 := zM (hbox); have GW262 := zM (bs_ hg); have GE262 := zM (bs_ hg); replace HB := zM (zB bel_ hb); have NB258_262 := zM (nl_ BK258 hg); have NB262_258 := zM (ng_ BK258 hg); replace BK258 := zM (bb_ BK258 hb); have NB261_262 := zM (nl_ BK261 hg); have NB262_261 := zM (ng_ BK261 hg); replace BK261 := zM (bb_ BK261 hb); clear hb hbox hg; have hnb35 := NB262_258.out; have hnc35 := NB258_262.out; have hnb36 := NB262_261.out; have hnc36 := NB261_262.out; have hcz37 := rf2_ BK262.out) | ((with_reducible refine gate_dst (N := 8) rfl ?_); clear tk40; (try (refine gate_guard (by rfl) ?_; dsimp only)); refine Kd.R_lit k34 _ 34 ?hg (N := 8) ?hd (xs := ([(⟨a1_0, (⟨a1_1, a1_2⟩ : S26)⟩ : S34)] : List (S34))) (inner := [.int .i64 a1_0, .int .i64 a1_1, .int .i64 a1_2]) (ok := fun _ => True) (okp := fun _ => True) ?hr ?hp (fun _ hk => hk) trivial (Below.refl _ _) (Nat.le_refl _) (by simp) ?_; (case hd => rfl); (case hg => rfl); (case hr => first | (go_simp; done) | (go_simp; rfl)); (case hp => exact (Reps.c3 (show Kd.M k34 _ _ _ (⟨a1_0, (⟨a1_1, a1_2⟩ : S26)⟩ : S34) [.int .i64 a1_0, .int .i64 a1_1, .int .i64 a1_2] from (k34_mkM _ _ _ (⟨a1_0, (⟨a1_1, a1_2⟩ : S26)⟩ : S34) )) (Reps.none _ _))); intro v264 w38 ho39 hb hg_ hnew_; clear hg_ hnew_; (first | rw [← Ny263.out] at ho39 | (simp only [Int.reduceToNat] at ho39; rw [← Ny263.out] at ho39)); have HO265 := zM (Kd.R_lower (Kd.R_newB ho39 (g := gb258) (o := .cells #[.int .i64 a1_0, .int .i64 a1_1, .int .i64 a1_2] 34 (0, 0)) blk_) (below_size bel_)); replace BK258 := zM (bb_ BK258 hb); replace BK261 := zM (bb_ BK261 hb); replace BK262 := zM (bb_ BK262 hb); replace HB := zM (zB bel_ hb); clear hb ho39; obtain ⟨Ao41, co41, eo41⟩ := Kd.R_slice HO265.out; subst eo41) | ((with_reducible refine gate_dst (N := 10) rfl ?_); clear tk43; (try (refine gate_guard (by rfl) ?_; dsimp only)); refine box_event ?hg (N := 10) ?hd (cs := #[.slice Ao41 y263.length co41, .int .i64 0, .slice none 0 0]) (t := 61) ?hr ?_; (case hd => rfl); (case hg => rfl); (case hr => first | (go_simp; done) | (go_simp; rfl)); intro gb266 hg w42 hbox hb; replace HO265 := zM (Kd.R_below (rl_ HO265) hb); have BK266 := zM (hbox); have GW266 := zM (bs_ hg); have GE266 := zM (bs_ hg); replace HB := zM (zB bel_ hb); have NB258_266 := zM (nl_ BK258 hg); have NB266_258 := zM (ng_ BK258 hg); replace BK258 := zM (bb_ BK258 hb); have NB261_266 := zM (nl_ BK261 hg); have NB266_261 := zM (ng_ BK261 hg); replace BK261 := zM (bb_ BK261 hb); have NB262_266 := zM (nl_ BK262 hg); have NB266_262 := zM (ng_ BK262 hg); replace BK262 := zM (bb_ BK262 hb); clear hb hbox hg) | (clear tk44; (first | go_ret | go_ret2 | go_ret3 | go_end0); with_reducible refine inl_back_ ?_))
     try clear hcz37
     try clear hnb35
     try clear hnb36
     try clear hnc35
     try clear hnc36
     have hnb45 := NB258_261.out
     have hnc45 := NB261_258.out
     have hnb46 := NB258_262.out
     have hnc46 := NB262_258.out
     have hnb47 := NB258_266.out
     have hnc47 := NB266_258.out
     have hcz48 := rf3_ BK258.out
     have tk50 : True := trivial
     have tk57 : True := trivial
     go_upto_region 9 with (first | ((with_reducible refine gate_dst (N := 8) rfl ?_); clear tk50; (try (refine gate_guard (by rfl) ?_; dsimp only)); refine box_event ?hg (N := 8) ?hd (cs := #[.bool false, .int .i64 0, .int .i64 0, .int .i64 0, .slice none 0 0]) (t := 38) ?hr ?_; (case hd => rfl); (case hg => rfl); (case hr => first | (go_simp; done) | (go_simp; rfl)); intro gb267 hg w49 hbox hb; replace HO265 := zM (Kd.R_below (rl_ HO265) hb); have BK267 := zM (hbox); have GW267 := zM (bs_ hg); have GE267 := zM (bs_ hg); replace HB := zM (zB bel_ hb); have NB258_267 := zM (nl_ BK258 hg); have NB267_258 := zM (ng_ BK258 hg); replace BK258 := zM (bb_ BK258 hb); have NB261_267 := zM (nl_ BK261 hg); have NB267_261 := zM (ng_ BK261 hg); replace BK261 := zM (bb_ BK261 hb); have NB262_267 := zM (nl_ BK262 hg); have NB267_262 := zM (ng_ BK262 hg); replace BK262 := zM (bb_ BK262 hb); have NB266_267 := zM (nl_ BK266 hg); have NB267_266 := zM (ng_ BK266 hg); replace BK266 := zM (bb_ BK266 hb); clear hb hbox hg; have hnb51 := NB267_258.out; have hnc51 := NB258_267.out; have hnb52 := NB267_261.out; have hnc52 := NB261_267.out; have hnb53 := NB267_262.out; have hnc53 := NB262_267.out; have hnb54 := NB267_266.out; have hnc54 := NB266_267.out; have hcz55 := rf5_ BK267.out) | ((with_reducible refine gate_store (t := 38) (p := 8) rfl ?_); clear tk57; refine store_event (t := 38) (p := 8) (v := ?vo_w56) (w1 := (((((w49.setCell ⟨gb267, 0, none⟩ (.bool true)).setCell ⟨gb267, 1, none⟩ (.int .i64 a1_0)).setCell ⟨gb267, 2, none⟩ (.int .i64 a1_1)).setCell ⟨gb267, 3, none⟩ (.int .i64 a1_2)).setCell ⟨gb267, 4, none⟩ (.slice none 0 0))) ?hg ?ho ?hn ?hr ?_; (case ho => rfl); (case hg => rfl); (case hn => rfl); (case hr => first | (go_simp; done) | (go_simp; rfl)); intro w56 hw; replace HO265 : Aside0 (Kd.R k34 34 w56 w.heap.size (fun k_ => k_ ≠ gb258) (.slice Ao41 y263.length co41) y263) := tR5_ hw HO265 BK267 (fun _ h => h.1.2); replace BK258 := bB5_ hw BK258 NB258_267; replace BK261 := bB5_ hw BK261 NB261_267; replace BK262 := bB5_ hw BK262 NB262_267; replace BK266 := bB5_ hw BK266 NB266_267; replace BK267 : Aside0 (w56.heap[gb267]? = some (.cells #[.bool true, .int .i64 a1_0, .int .i64 a1_1, .int .i64 a1_2, .slice none 0 0] 38 (0, 0))) := bP5_ hw BK267 rfl; replace HB : Aside0 (Below w.heap.size w w56) := ⟨(by rw [hw]; exact bel_)⟩; clear hw))
     try clear hcz55
     try clear hnb51
     try clear hnb52
     try clear hnb53
     try clear hnb54
     try clear hnc51
     try clear hnc52
     try clear hnc53
     try clear hnc54
     have H' := zM H
     clear H
     go_wp2
     go_loopg [65] kj9 (fun kq v65 w' => ∃ (x65_2 : Int) (X0 : Int) (X1 : Int) (X2 : List (S34)) (X3 : Int) (X4 : List (S34)) (X5 : Bool) (X6 : Int) (X7 : Int) (X8 : Int) (X9 : List (List (S34))) (u267000 : Value) (u267002 : Value) (u268004 : Value), v65 = .int .i64 x65_2 ∧ Aside0 (ropewaylaw15_SnapRuns_t.l0 kq l2 (l2.length : Int) x65_2 X2 X3 X4 X5 X6 X7 X8 X9 = some r) ∧ Aside0 (kq ≤ kj9) ∧ Aside0 (Kd.R k34 34 w' w.heap.size (fun k_ => some k_ ≠ (u267002 : Value).ownBlock ∧ k_ ≠ gb258) u267000 X2) ∧ Aside0 (Kd.R k34 34 w' w.heap.size (fun k_ => some k_ ≠ (u267000 : Value).ownBlock ∧ k_ ≠ gb258) u267002 X4) ∧ Aside0 (Kd.V (Kd.slice 34 k34) 27 w' w.heap.size (fun k_ => some k_ ≠ (u267000 : Value).ownBlock ∧ some k_ ≠ (u267002 : Value).ownBlock ∧ k_ ≠ gb258 ∧ k_ ≠ gb261 ∧ k_ ≠ gb262 ∧ k_ ≠ gb266 ∧ k_ ≠ gb267) u268004 X9) ∧ Aside0 (w'.heap[gb258]? = some (.cells #[.int .i64 X0, .int .i64 a1_1, .int .i64 a1_2] 34 (0, 0))) ∧ Aside0 (w'.heap[gb261]? = some (.cells #[(.slice none 0 0), .int .i64 X1, (.slice none 0 0)] 61 (0, 0))) ∧ Aside0 (w'.heap[gb262]? = some (.cells #[.int .i64 a1_1, .int .i64 a1_2] 26 (0, 0))) ∧ Aside0 (w'.heap[gb266]? = some (.cells #[u267000, .int .i64 X3, u267002] 61 (0, 0))) ∧ Aside0 (w'.heap[gb267]? = some (.cells #[.bool X5, .int .i64 X6, .int .i64 X7, .int .i64 X8, u268004] 38 (0, 0))) ∧ Aside0 (Below w.heap.size w w'))
     case atStart => exact ⟨(0), (a1_0), (0), (y263), (0), (([] : List (S34))), (true), (a1_0), (a1_1), (a1_2), (([] : List (List (S34)))), (.slice Ao41 y263.length co41), (.slice none 0 0), (.slice none 0 0), (by first | rfl | (simp; done) | (simp [*]; done) | (simp; grind)), H', ⟨Nat.le_refl _⟩, rm_ HO265 (fun _ h => ⟨(by simp [Value.ownBlock]), h⟩), ⟨by first | exact Kd.R_nil _ _ _ _ _ | exact Kd.N_nil _ _ _ _ _ | exact Kd.V_nil _ _ _ _ _ | exact Kd.Q_nil _ _ _ _ _ | exact Kd.S_nil _ _ _ _ _⟩, ⟨Kd.V_nil _ _ _ _ _⟩, ⟨blf_⟩, ⟨blf_⟩, ⟨blf_⟩, ⟨blf_⟩, ⟨blf_⟩, ⟨bel_⟩⟩
     case round => as_aux_lemma =>
      clear H'
      try clear c2
      try clear c7
      try clear c11
      try clear c11b0
      try clear c11b1
      try clear c12
      try clear c12b0
      try clear c14
      try clear c14b0
      try clear c17
      try clear c25
      try clear hcz13
      try clear hcz15
      try clear hcz18
      try clear hcz21
      try clear hcz22
      try clear hcz31
      try clear hcz37
      try clear hcz48
      try clear hcz55
      obtain ⟨x65_2, X0, X1, X2, X3, X4, X5, X6, X7, X8, X9, u267000, u267002, u268004, rfl, HA, HK2, HOa, HOb, HOc, BK258, BK261, BK262, BK266, BK267, HB⟩ := hrel
      cases gk with
      | zero => exact absurd HA.out (by simp [ropewaylaw15_SnapRuns_t.l0])
      | succ k2 =>
       have H := HA.out
       clear HA
       simp only [ropewaylaw15_SnapRuns_t.l0] at H
       by_cases c58 : x65_2 < (l2.length : Int)
       rotate_left
       ·
        as_aux_lemma =>
         rw [if_neg c58] at H
         have c58b0 : decide (x65_2 < (l2.length : Int)) = false := decide_eq_false c58
         clear c58
         have HC330 := zM H
         clear H
         go_upto_region 27 with (fail)
         (try simp only [Act.put, zS, zZ, zC])
         go_cut [19, 20, 21] (fun v19 v20 v21 wc => ∃ (kq : Nat) (x19_329 : Int) (x20_329 : List (S34)) (x21_329 : Bool) (Xa : Int) (Xb : Int), v19 = .int .i64 x19_329 ∧ v21 = .bool x21_329 ∧ Aside0 (ropewaylaw15_SnapRuns_t.j6 kq x19_329 x20_329 x21_329 X2 Xb X4 X5 X6 X7 X8 X9 = some r) ∧ Aside0 (kq ≤ k2) ∧ Aside0 (Kd.R k34 34 wc w.heap.size (fun k_ => some k_ ≠ (u267000 : Value).ownBlock ∧ some k_ ≠ (u267002 : Value).ownBlock ∧ k_ ≠ gb258) v20 x20_329) ∧ Aside0 (Kd.R k34 34 wc w.heap.size (fun k_ => some k_ ≠ (v20 : Value).ownBlock ∧ some k_ ≠ (u267002 : Value).ownBlock ∧ k_ ≠ gb258) u267000 X2) ∧ Aside0 (Kd.R k34 34 wc w.heap.size (fun k_ => some k_ ≠ (v20 : Value).ownBlock ∧ some k_ ≠ (u267000 : Value).ownBlock ∧ k_ ≠ gb258) u267002 X4) ∧ Aside0 (Kd.V (Kd.slice 34 k34) 27 wc w.heap.size (fun k_ => some k_ ≠ (v20 : Value).ownBlock ∧ some k_ ≠ (u267000 : Value).ownBlock ∧ some k_ ≠ (u267002 : Value).ownBlock ∧ k_ ≠ gb258 ∧ k_ ≠ gb261 ∧ k_ ≠ gb262 ∧ k_ ≠ gb266 ∧ k_ ≠ gb267) u268004 X9) ∧ Aside0 (wc.heap[gb258]? = some (.cells #[.int .i64 X0, .int .i64 a1_1, .int .i64 a1_2] 34 (0, 0))) ∧ Aside0 (wc.heap[gb261]? = some (.cells #[(.slice none 0 0), .int .i64 Xa, (.slice none 0 0)] 61 (0, 0))) ∧ Aside0 (wc.heap[gb262]? = some (.cells #[.int .i64 a1_1, .int .i64 a1_2] 26 (0, 0))) ∧ Aside0 (wc.heap[gb266]? = some (.cells #[u267000, .int .i64 Xb, u267002] 61 (0, 0))) ∧ Aside0 (wc.heap[gb267]? = some (.cells #[.bool X5, .int .i64 X6, .int .i64 X7, .int .i64 X8, u268004] 38 (0, 0))) ∧ Aside0 (Below w.heap.size w wc))
         case first => as_aux_lemma =>
          have H := HC330.out
          clear HC330
          by_cases c331 : X3 = 4
          · rw [if_pos c331] at H
            have c331b0 : (X3 == 4) = true := beq_iff_eq.mpr c331
            have c331b1 : (X3 != 4) = false := bne_eq_false_iff_eq.mpr c331
            clear c331
            (first | rw [c331b0] | (simp only [i64_w, i32_w]; rw [c331b0]) | skip)
            have H' := zM H
            clear H
            have tk332 : True := trivial
            have tk338 : True := trivial
            go_wp2_with (first | ((with_reducible refine gate_callee (f := 9) rfl ?_); clear tk332; refine goL_ (some 127) Try.func9 #[.pointer (some ⟨gb266, 0, none⟩)] ?_; go_enter Try.func9, Try.ntmps9; have hnb333 := NB266_258.out; have hnc333 := NB258_266.out; have hnb334 := NB266_261.out; have hnc334 := NB261_266.out; have hnb335 := NB266_262.out; have hnc335 := NB262_266.out; have hnb336 := NB266_267.out; have hnc336 := NB267_266.out; have hcz337 := rf3_ BK266.out) | (clear tk338; (first | go_ret | go_ret2 | go_ret3 | go_end0); with_reducible refine inl_back_ ?_))
            go_meet
            case rel => exact ⟨_, (0), (([] : List (S34))), (false), (X1), (X3), (by first | rfl | (simp; done) | (simp [*]; done) | (simp; grind)), (by first | rfl | (simp; done) | (simp [*]; done) | (simp; grind)), H', ⟨by have := HJ9.out; have := HK2.out; first | omega | exact Nat.le_refl _⟩, ⟨by first | exact Kd.R_nil _ _ _ _ _ | exact Kd.N_nil _ _ _ _ _ | exact Kd.V_nil _ _ _ _ _ | exact Kd.Q_nil _ _ _ _ _ | exact Kd.S_nil _ _ _ _ _⟩, rm_ HOa (fun _ h => ⟨(by simp [Value.ownBlock]), h⟩), rm_ HOb (fun _ h => ⟨(by simp [Value.ownBlock]), h⟩), vm_ HOc (fun _ h => ⟨(by simp [Value.ownBlock]), h⟩), ⟨blf_⟩, ⟨blf_⟩, ⟨blf_⟩, ⟨blf_⟩, ⟨blf_⟩, ⟨bel_⟩⟩
          rw [if_neg c331] at H
          have c331b0 : (X3 == 4) = false := beq_eq_false_iff_ne.mpr c331
          have c331b1 : (X3 != 4) = true := bne_iff_ne.mpr c331
          (first | rw [c331b0] | (simp only [i64_w, i32_w]; rw [c331b0]) | skip)
          by_cases c339 : X3 = 0
          · rw [if_pos c339] at H
            have c339b0 : (X3 == 0) = true := beq_iff_eq.mpr c339
            have c339b1 : (X3 != 0) = false := bne_eq_false_iff_eq.mpr c339
            clear c339
            have H' := zM H
            clear H
            have tk340 : True := trivial
            have tk346 : True := trivial
            go_wp2_with (first | ((with_reducible refine gate_callee (f := 9) rfl ?_); clear tk340; refine goL_ (some 127) Try.func9 #[.pointer (some ⟨gb266, 0, none⟩)] ?_; go_enter Try.func9, Try.ntmps9; have hnb341 := NB266_258.out; have hnc341 := NB258_266.out; have hnb342 := NB266_261.out; have hnc342 := NB261_266.out; have hnb343 := NB266_262.out; have hnc343 := NB262_266.out; have hnb344 := NB266_267.out; have hnc344 := NB267_266.out; have hcz345 := rf3_ BK266.out) | (clear tk346; (first | go_ret | go_ret2 | go_ret3 | go_end0); with_reducible refine inl_back_ ?_))
            go_meet
            case rel => exact ⟨_, (0), (([] : List (S34))), (true), (X1), (X3), (by first | rfl | (simp; done) | (simp [*]; done) | (simp; grind)), (by first | rfl | (simp; done) | (simp [*]; done) | (simp; grind)), H', ⟨by have := HJ9.out; have := HK2.out; first | omega | exact Nat.le_refl _⟩, ⟨by first | exact Kd.R_nil _ _ _ _ _ | exact Kd.N_nil _ _ _ _ _ | exact Kd.V_nil _ _ _ _ _ | exact Kd.Q_nil _ _ _ _ _ | exact Kd.S_nil _ _ _ _ _⟩, rm_ HOa (fun _ h => ⟨(by simp [Value.ownBlock]), h⟩), rm_ HOb (fun _ h => ⟨(by simp [Value.ownBlock]), h⟩), vm_ HOc (fun _ h => ⟨(by simp [Value.ownBlock]), h⟩), ⟨blf_⟩, ⟨blf_⟩, ⟨blf_⟩, ⟨blf_⟩, ⟨blf_⟩, ⟨bel_⟩⟩
          rw [if_neg c339] at H
          have c339b0 : (X3 == 0) = false := beq_eq_false_iff_ne.mpr c339
          have c339b1 : (X3 != 0) = true := bne_iff_ne.mpr c339
          by_cases c347 : X3 = 2
          · rw [if_pos c347] at H
            have c347b0 : (X3 == 2) = true := beq_iff_eq.mpr c347
            have c347b1 : (X3 != 2) = false := bne_eq_false_iff_eq.mpr c347
            clear c347
            have H' := zM H
            clear H
            have tk348 : True := trivial
            have tk354 : True := trivial
            go_wp2_with (first | ((with_reducible refine gate_callee (f := 9) rfl ?_); clear tk348; refine goL_ (some 127) Try.func9 #[.pointer (some ⟨gb266, 0, none⟩)] ?_; go_enter Try.func9, Try.ntmps9; have hnb349 := NB266_258.out; have hnc349 := NB258_266.out; have hnb350 := NB266_261.out; have hnc350 := NB261_266.out; have hnb351 := NB266_262.out; have hnc351 := NB262_266.out; have hnb352 := NB266_267.out; have hnc352 := NB267_266.out; have hcz353 := rf3_ BK266.out) | (clear tk354; (first | go_ret | go_ret2 | go_ret3 | go_end0); with_reducible refine inl_back_ ?_))
            go_meet
            case rel => exact ⟨_, (0), (([] : List (S34))), (true), (X1), (X3), (by first | rfl | (simp; done) | (simp [*]; done) | (simp; grind)), (by first | rfl | (simp; done) | (simp [*]; done) | (simp; grind)), H', ⟨by have := HJ9.out; have := HK2.out; first | omega | exact Nat.le_refl _⟩, ⟨by first | exact Kd.R_nil _ _ _ _ _ | exact Kd.N_nil _ _ _ _ _ | exact Kd.V_nil _ _ _ _ _ | exact Kd.Q_nil _ _ _ _ _ | exact Kd.S_nil _ _ _ _ _⟩, rm_ HOa (fun _ h => ⟨(by simp [Value.ownBlock]), h⟩), rm_ HOb (fun _ h => ⟨(by simp [Value.ownBlock]), h⟩), vm_ HOc (fun _ h => ⟨(by simp [Value.ownBlock]), h⟩), ⟨blf_⟩, ⟨blf_⟩, ⟨blf_⟩, ⟨blf_⟩, ⟨blf_⟩, ⟨bel_⟩⟩
          rw [if_neg c347] at H
          have c347b0 : (X3 == 2) = false := beq_eq_false_iff_ne.mpr c347
          have c347b1 : (X3 != 2) = true := bne_iff_ne.mpr c347
          replace H := Option.bind_eq_some_iff.mp H
          obtain ⟨t308, A3550, H⟩ := H
          replace H : (if t308 = true then ((api_Cell.f X2).bind fun t309 => (ropewaylaw15_SnapRuns_t.j6 k2 1 t309 true X2 X3 X4 X5 X6 X7 X8 X9)) else ((api_Cell.f X4).bind fun t312 => (ropewaylaw15_SnapRuns_t.j6 k2 1 t312 true X2 X3 X4 X5 X6 X7 X8 X9))) = some r := H
          have A355 := zM A3550
          clear A3550
          by_cases c356 : t308 = true
          ·
           subst c356
           have H1 : ((api_Cell.f X2).bind fun t309 => (ropewaylaw15_SnapRuns_t.j6 k2 1 t309 true X2 X3 X4 X5 X6 X7 X8 X9)) = some r := by rw [if_pos rfl] at H; exact H
           clear H
           have H := H1
           clear H1
           replace H := Option.bind_eq_some_iff.mp H
           obtain ⟨t309, A3570, H⟩ := H
           replace H : (ropewaylaw15_SnapRuns_t.j6 k2 1 t309 true X2 X3 X4 X5 X6 X7 X8 X9) = some r := H
           have A357 := zM A3570
           clear A3570
           have H' := zM H
           clear H
           have tk358 : True := trivial
           have tk366 : True := trivial
           have tk368 : True := trivial
           have tk369 : True := trivial
           go_wp2_with (first | ((with_reducible refine gate_callee (f := 9) rfl ?_); clear tk358; refine goL_ (some 127) Try.func9 #[.pointer (some ⟨gb266, 0, none⟩)] ?_; go_enter Try.func9, Try.ntmps9; have hnb359 := NB266_258.out; have hnc359 := NB258_266.out; have hnb360 := NB266_261.out; have hnc360 := NB261_266.out; have hnb361 := NB266_262.out; have hnc361 := NB262_266.out; have hnb362 := NB266_267.out; have hnc362 := NB267_266.out; have hcz363 := rf3_ BK266.out; obtain ⟨Ao364, co364, eo364⟩ := Kd.R_slice HOa.out; subst eo364; obtain ⟨Ao365, co365, eo365⟩ := Kd.R_slice HOb.out; subst eo365) | ((with_reducible refine gate_callee (f := 11) rfl ?_); clear tk366; refine goL_ (some 24) Try.func11 #[.pointer (some ⟨gb266, 0, none⟩)] ?_; (with_reducible refine (snap_Snap_Own.calls gb266 Ao364 co364 X2 X3 Ao365 co365 X4 true _ ?side1 ?side2 ?side3 ?side4 ?side5 A355.out).mono ?_); (case side1 => exact (Kd.R_reads' HOa.out).2.2); (case side2 => exact (Kd.R_reads' HOa.out).2.1); (case side3 => exact (Kd.R_reads' HOb.out).2.2); (case side4 => exact (Kd.R_reads' HOb.out).2.1); (case side5 => exact blf_); rintro e w' ⟨rfl, ⟨nd, rfl⟩⟩; refine ⟨_, rfl, ?_⟩) | ((with_reducible refine gate_callee (f := 25) rfl ?_); clear tk368; refine goL_ (some 29) Try.func25 #[.slice Ao364 X2.length co364] ?_; (with_reducible refine (api_Cell.calls _ _ X2 t309 _ ?side1 ?side2 A357.out).mono ?_); (case side1 => exact (Kd.R_reads' HOa.out).2.2); (case side2 => exact (Kd.R_reads' HOa.out).2.1); rintro e w367 ⟨v310, rfl, ho0, hb⟩; refine ⟨_, rfl, ?_⟩; replace HOc := zM (Kd.V_elder' (rv_ HOc) (Kd.R_base ho0) hb); have HO311 := zM (Kd.R_lower (Kd.R_newB (Kd.R_new' (Kd.R_new' ho0 (Kd.R_lt (rl_ HOa))) (Kd.R_lt (rl_ HOb))) (g := gb258) (o := .cells #[.int .i64 X0, .int .i64 a1_1, .int .i64 a1_2] 34 (0, 0)) blk_) (below_size bel_)); replace HOa := zM (Kd.R_elder' (rl_ HOa) (Kd.R_base ho0) hb); replace HOb := zM (Kd.R_elder' (rl_ HOb) (Kd.R_base ho0) hb); replace BK258 := zM (bb_ BK258 hb); replace BK261 := zM (bb_ BK261 hb); replace BK262 := zM (bb_ BK262 hb); replace BK266 := zM (bb_ BK266 hb); replace BK267 := zM (bb_ BK267 hb); replace HB := zM (zB bel_ hb); (try clear hb); (try clear ho0)) | (clear tk369; (first | go_ret | go_ret2 | go_ret3 | go_end0); with_reducible refine inl_back_ ?_))
           go_meet
           case rel => exact ⟨_, (1), (t309), (true), (X1), (X3), (by first | rfl | (simp; done) | (simp [*]; done) | (simp; grind)), (by first | rfl | (simp; done) | (simp [*]; done) | (simp; grind)), H', ⟨by have := HJ9.out; have := HK2.out; first | omega | exact Nat.le_refl _⟩, rm_ HO311 (fun _ h => ⟨h.1.1.2, h.1.2, h.2⟩), rm_ HOa (fun _ h => ⟨h.2, h.1⟩), rm_ HOb (fun _ h => ⟨h.2, h.1⟩), vm_ HOc (fun _ h => ⟨h.2, h.1⟩), ⟨blf_⟩, ⟨blf_⟩, ⟨blf_⟩, ⟨blf_⟩, ⟨blf_⟩, ⟨bel_⟩⟩
          replace c356 := Bool.eq_false_iff.mpr c356
          subst c356
          have H1 : ((api_Cell.f X4).bind fun t312 => (ropewaylaw15_SnapRuns_t.j6 k2 1 t312 true X2 X3 X4 X5 X6 X7 X8 X9)) = some r := by rw [if_neg (show ¬ (false = true) by decide)] at H; exact H
          clear H
          have H := H1
          clear H1
          replace H := Option.bind_eq_some_iff.mp H
          obtain ⟨t312, A3700, H⟩ := H
          replace H : (ropewaylaw15_SnapRuns_t.j6 k2 1 t312 true X2 X3 X4 X5 X6 X7 X8 X9) = some r := H
          have A370 := zM A3700
          clear A3700
          have H' := zM H
          clear H
          have tk371 : True := trivial
          have tk379 : True := trivial
          have tk381 : True := trivial
          have tk382 : True := trivial
          go_wp2_with (first | ((with_reducible refine gate_callee (f := 9) rfl ?_); clear tk371; refine goL_ (some 127) Try.func9 #[.pointer (some ⟨gb266, 0, none⟩)] ?_; go_enter Try.func9, Try.ntmps9; have hnb372 := NB266_258.out; have hnc372 := NB258_266.out; have hnb373 := NB266_261.out; have hnc373 := NB261_266.out; have hnb374 := NB266_262.out; have hnc374 := NB262_266.out; have hnb375 := NB266_267.out; have hnc375 := NB267_266.out; have hcz376 := rf3_ BK266.out; obtain ⟨Ao377, co377, eo377⟩ := Kd.R_slice HOa.out; subst eo377; obtain ⟨Ao378, co378, eo378⟩ := Kd.R_slice HOb.out; subst eo378) | ((with_reducible refine gate_callee (f := 11) rfl ?_); clear tk379; refine goL_ (some 24) Try.func11 #[.pointer (some ⟨gb266, 0, none⟩)] ?_; (with_reducible refine (snap_Snap_Own.calls gb266 Ao377 co377 X2 X3 Ao378 co378 X4 false _ ?side1 ?side2 ?side3 ?side4 ?side5 A355.out).mono ?_); (case side1 => exact (Kd.R_reads' HOa.out).2.2); (case side2 => exact (Kd.R_reads' HOa.out).2.1); (case side3 => exact (Kd.R_reads' HOb.out).2.2); (case side4 => exact (Kd.R_reads' HOb.out).2.1); (case side5 => exact blf_); rintro e w' ⟨rfl, ⟨nd, rfl⟩⟩; refine ⟨_, rfl, ?_⟩) | ((with_reducible refine gate_callee (f := 25) rfl ?_); clear tk381; refine goL_ (some 34) Try.func25 #[.slice Ao378 X4.length co378] ?_; (with_reducible refine (api_Cell.calls _ _ X4 t312 _ ?side1 ?side2 A370.out).mono ?_); (case side1 => exact (Kd.R_reads' HOb.out).2.2); (case side2 => exact (Kd.R_reads' HOb.out).2.1); rintro e w380 ⟨v313, rfl, ho0, hb⟩; refine ⟨_, rfl, ?_⟩; replace HOc := zM (Kd.V_elder' (rv_ HOc) (Kd.R_base ho0) hb); have HO314 := zM (Kd.R_lower (Kd.R_newB (Kd.R_new' (Kd.R_new' ho0 (Kd.R_lt (rl_ HOa))) (Kd.R_lt (rl_ HOb))) (g := gb258) (o := .cells #[.int .i64 X0, .int .i64 a1_1, .int .i64 a1_2] 34 (0, 0)) blk_) (below_size bel_)); replace HOa := zM (Kd.R_elder' (rl_ HOa) (Kd.R_base ho0) hb); replace HOb := zM (Kd.R_elder' (rl_ HOb) (Kd.R_base ho0) hb); replace BK258 := zM (bb_ BK258 hb); replace BK261 := zM (bb_ BK261 hb); replace BK262 := zM (bb_ BK262 hb); replace BK266 := zM (bb_ BK266 hb); replace BK267 := zM (bb_ BK267 hb); replace HB := zM (zB bel_ hb); (try clear hb); (try clear ho0)) | (clear tk382; (first | go_ret | go_ret2 | go_ret3 | go_end0); with_reducible refine inl_back_ ?_))
          go_meet
          case rel => exact ⟨_, (1), (t312), (true), (X1), (X3), (by first | rfl | (simp; done) | (simp [*]; done) | (simp; grind)), (by first | rfl | (simp; done) | (simp [*]; done) | (simp; grind)), H', ⟨by have := HJ9.out; have := HK2.out; first | omega | exact Nat.le_refl _⟩, rm_ HO314 (fun _ h => ⟨h.1.1.2, h.1.2, h.2⟩), rm_ HOa (fun _ h => ⟨h.2, h.1⟩), rm_ HOb (fun _ h => ⟨h.2, h.1⟩), vm_ HOc (fun _ h => ⟨h.2, h.1⟩), ⟨blf_⟩, ⟨blf_⟩, ⟨blf_⟩, ⟨blf_⟩, ⟨blf_⟩, ⟨bel_⟩⟩
         case rest => as_aux_lemma =>
          clear HC330
          try clear c2
          try clear c11
          try clear c14
          try clear c25
          try clear c58
          try clear c58b0
          try clear c59
          try clear c60
          try clear c62
          try clear c62b0
          try clear c62b1
          try clear c65
          try clear p268
          try clear q268
          try clear c308
          try clear c308b0
          try clear c308b1
          try clear c310
          try clear c311
          try clear c311b0
          try clear c311b1
          try clear c311b2
          try clear c327
          try clear c331
          try clear c331b0
          try clear c331b1
          try clear c339
          try clear c339b0
          try clear c339b1
          try clear c347
          try clear c347b0
          try clear c347b1
          try clear c356
          try clear hcz337
          try clear hcz345
          try clear hcz353
          try clear hcz363
          try clear hcz376
          try clear hx268_0
          try clear p268
          try clear q268
          obtain ⟨kq, x19_329, x20_329, x21_329, Xa, Xb, rfl, rfl, HA, HJ329, HO_20, HOa, HOb, HOc, BK258, BK261, BK262, BK266, BK267, HB⟩ := hcut
          cases kq with
          | zero => exact absurd HA.out (by simp [ropewaylaw15_SnapRuns_t.j6])
          | succ kj329 =>
           have H := HA.out
           clear HA
           simp only [ropewaylaw15_SnapRuns_t.j6] at H
           have H' := zM H
           clear H
           obtain ⟨Ao383, co383, eo383⟩ := Kd.R_slice HO_20.out
           subst eo383
           go_wp2
           go_loopg [133] kj329 (fun kq v133 w' => ∃ (x20_4 : List (S34)) (x133_4 : Int) (Xc : Int), v133 = .int .i64 x133_4 ∧ Aside0 (ropewaylaw15_SnapRuns_t.l2 kq x19_329 x20_4 x21_329 (x20_329.length : Int) x133_4 X2 Xb X4 X5 X6 X7 X8 X9 = some r) ∧ Aside0 (kq ≤ kj329) ∧ Aside0 (Kd.R k34 34 w' w.heap.size (fun k_ => some k_ ≠ (u267000 : Value).ownBlock ∧ some k_ ≠ (u267002 : Value).ownBlock ∧ k_ ≠ gb258) (.slice Ao383 x20_329.length co383) x20_4) ∧ Aside0 (Kd.R k34 34 w' w.heap.size (fun k_ => some k_ ≠ ((.slice Ao383 x20_329.length co383) : Value).ownBlock ∧ some k_ ≠ (u267002 : Value).ownBlock ∧ k_ ≠ gb258) u267000 X2) ∧ Aside0 (Kd.R k34 34 w' w.heap.size (fun k_ => some k_ ≠ ((.slice Ao383 x20_329.length co383) : Value).ownBlock ∧ some k_ ≠ (u267000 : Value).ownBlock ∧ k_ ≠ gb258) u267002 X4) ∧ Aside0 (Kd.V (Kd.slice 34 k34) 27 w' w.heap.size (fun k_ => some k_ ≠ ((.slice Ao383 x20_329.length co383) : Value).ownBlock ∧ some k_ ≠ (u267000 : Value).ownBlock ∧ some k_ ≠ (u267002 : Value).ownBlock ∧ k_ ≠ gb258 ∧ k_ ≠ gb261 ∧ k_ ≠ gb262 ∧ k_ ≠ gb266 ∧ k_ ≠ gb267) u268004 X9) ∧ Aside0 (w'.heap[gb258]? = some (.cells #[.int .i64 Xc, .int .i64 a1_1, .int .i64 a1_2] 34 (0, 0))) ∧ Aside0 (w'.heap[gb261]? = some (.cells #[(.slice none 0 0), .int .i64 Xa, (.slice none 0 0)] 61 (0, 0))) ∧ Aside0 (w'.heap[gb262]? = some (.cells #[.int .i64 a1_1, .int .i64 a1_2] 26 (0, 0))) ∧ Aside0 (w'.heap[gb266]? = some (.cells #[u267000, .int .i64 Xb, u267002] 61 (0, 0))) ∧ Aside0 (w'.heap[gb267]? = some (.cells #[.bool X5, .int .i64 X6, .int .i64 X7, .int .i64 X8, u268004] 38 (0, 0))) ∧ Aside0 (Below w.heap.size w w'))
           case atStart => exact ⟨(x20_329), (0), (X0), (by first | rfl | (simp; done) | (simp [*]; done) | (simp; grind)), H', ⟨Nat.le_refl _⟩, HO_20, HOa, HOb, HOc, ⟨blf_⟩, ⟨blf_⟩, ⟨blf_⟩, ⟨blf_⟩, ⟨blf_⟩, ⟨bel_⟩⟩
           case round => as_aux_lemma =>
            clear H'
            try clear c2
            try clear c11
            try clear c14
            try clear c25
            try clear c58
            try clear c58b0
            try clear c59
            try clear c60
            try clear c62
            try clear c62b0
            try clear c62b1
            try clear c65
            try clear p268
            try clear q268
            try clear c308
            try clear c308b0
            try clear c308b1
            try clear c310
            try clear c311
            try clear c311b0
            try clear c311b1
            try clear c311b2
            try clear c327
            try clear c331
            try clear c331b0
            try clear c331b1
            try clear c339
            try clear c339b0
            try clear c339b1
            try clear c347
            try clear c347b0
            try clear c347b1
            try clear c356
            try clear hcz337
            try clear hcz345
            try clear hcz353
            try clear hcz363
            try clear hcz376
            try clear hx268_0
            try clear p268
            try clear q268
            obtain ⟨x20_4, x133_4, Xc, rfl, HA, HK4, HO_20, HOa, HOb, HOc, BK258, BK261, BK262, BK266, BK267, HB⟩ := hrel
            have hl20_4 := (Kd.R_reads' HO_20.out).1
            rw [hl20_4] at HO_20
            (try simp only [hl20_4])
            (try simp only [hl20_4] at BK258)
            (try simp only [hl20_4] at BK261)
            (try simp only [hl20_4] at BK262)
            (try simp only [hl20_4] at BK266)
            (try simp only [hl20_4] at BK267)
            (try simp only [hl20_4] at HOa)
            (try simp only [hl20_4] at HOb)
            (try simp only [hl20_4] at HOc)
            cases gk with
            | zero => exact absurd HA.out (by simp [ropewaylaw15_SnapRuns_t.l2])
            | succ k4 =>
             have H := HA.out
             clear HA
             simp only [ropewaylaw15_SnapRuns_t.l2] at H
             by_cases c384 : x133_4 < (x20_329.length : Int)
             ·
              rw [if_pos c384] at H
              have c384b0 : decide (x133_4 < (x20_329.length : Int)) = true := decide_eq_true c384
              clear c384
              by_cases c385 : 0 ≤ x133_4
              rotate_left
              · rw [if_neg c385] at H
                exact absurd H (by simp)
              as_aux_lemma =>
               rw [if_pos c385] at H
               have c385b0 : decide (0 ≤ x133_4) = true := decide_eq_true c385
               clear c385
               by_cases c386 : x133_4 < (x20_4.length : Int)
               rotate_left
               · rw [if_neg c386] at H
                 exact absurd H (by simp)
               as_aux_lemma =>
                rw [if_pos c386] at H
                have c386b0 : decide (x133_4 < (x20_4.length : Int)) = true := decide_eq_true c386
                clear c386
                obtain ⟨y315, hy315⟩ : ∃ y_ : List (S34), y_ = (x20_4.set (x133_4 : Int).toNat (⟨77, (⟨(rd_T34 x20_4 x133_4).f1.f0, (rd_T34 x20_4 x133_4).f1.f1⟩ : S26)⟩ : S34)) := ⟨_, rfl⟩
                replace H : (ropewaylaw15_SnapRuns_t.l2 k4 x19_329 y315 x21_329 (x20_329.length : Int) (wrap64 (x133_4 + 1)) X2 Xb X4 X5 X6 X7 X8 X9) = some r := by first | (rw [hy315]; with_reducible exact H) | (have H2_ := (Option.bind_some _ _).symm.trans H; rw [hy315]; with_reducible exact H2_) | (have H2_ := (Option.bind_some _ _).symm.trans H; with_reducible exact H2_) | with_reducible exact H | (rw [hy315]; exact H) | exact H
                have Ny315 := zM hy315
                clear hy315
                have p387 : 0 ≤ (x133_4 : Int) := of_decide_eq_true (by first | (with_reducible assumption) | assumption)
                have q387 : (x133_4 : Int) < ((x20_4.length : Int) : Int) := of_decide_eq_true (by first | (with_reducible assumption) | assumption)
                obtain ⟨go387, co387, eo387, gb387, gl387, cl387, HG387⟩ := Kd.R_form HO_20.out (by omega)
                (first | cases eo387 | (injection eo387 with ea_ en_ ec_; (first | subst ea_ | (injection ea_ with ea_; subst ea_)); subst ec_; clear en_))
                have GB387 := zM gb387
                have GG387 := zM HG387
                clear gb387 gl387 HG387
                obtain ⟨ce387, hcl387, hM387, hcc387, hfr387⟩ := Kd.R_elem HO_20.out z34 (x133_4 : Int) p387 q387
                obtain rfl := k34_openM hM387
                have hx387_0 : wr.cell? ⟨go387, (x133_4 : Int).toNat * 3, none⟩ = some (.int .i64 ((rd_T34 x20_4 x133_4).f0)) := hcc387 0 _ rfl
                have hx387_1 : wr.cell? ⟨go387, (x133_4 : Int).toNat * 3 + 1, none⟩ = some (.int .i64 ((rd_T34 x20_4 x133_4).f1.f0)) := hcc387 1 _ rfl
                have hx387_2 : wr.cell? ⟨go387, (x133_4 : Int).toNat * 3 + 2, none⟩ = some (.int .i64 ((rd_T34 x20_4 x133_4).f1.f1)) := hcc387 2 _ rfl
                have hf387_0 : wr.frozen? ⟨go387, (x133_4 : Int).toNat * 3, none⟩ = false := hfr387 0
                have hf387_1 : wr.frozen? ⟨go387, (x133_4 : Int).toNat * 3 + 1, none⟩ = false := hfr387 1
                have hf387_2 : wr.frozen? ⟨go387, (x133_4 : Int).toNat * 3 + 2, none⟩ = false := hfr387 2
                clear hcl387 hcc387 hfr387 hM387
                replace p387 := eq_true p387
                replace q387 := eq_true q387
                have HX388 := zM (show Kd.R k34 34 wr w.heap.size (fun k_ => some k_ ≠ (u267000 : Value).ownBlock ∧ some k_ ≠ (u267002 : Value).ownBlock ∧ k_ ≠ gb258) (.slice (some ⟨go387, 0, none⟩) x20_4.length co383) x20_4 from (rl_ HO_20))
                obtain ⟨ce388, hcl388, hM388, hcc388, hfr388⟩ := Kd.R_elem HX388.out z34 (x133_4 : Int) (of_decide_eq_true (by first | (with_reducible assumption) | assumption)) (by have h_ : (x133_4 : Int) < ((x20_4.length : Int) : Int) := of_decide_eq_true (by first | (with_reducible assumption) | assumption); first | exact h_ | (have e_ := (Kd.R_reads' HO_20.out).1; omega) | simpa using h_)
                obtain rfl := k34_openM hM388
                have HP388 := Kd.R_seg HX388.out (x133_4 : Int) (of_decide_eq_true (by first | (with_reducible assumption) | assumption)) (by have h_ : (x133_4 : Int) < ((x20_4.length : Int) : Int) := of_decide_eq_true (by first | (with_reducible assumption) | assumption); first | exact h_ | (have e_ := (Kd.R_reads' HO_20.out).1; omega) | simpa using h_) (seg := [.int .i64 77]) (j := 0) hcl388 hcc388 (show 1 ≤ 3 from by decide) (x' := (⟨77, (⟨(rd_T34 x20_4 x133_4).f1.f0, (rd_T34 x20_4 x133_4).f1.f1⟩ : S26)⟩ : S34)) (k34_mkM _ _ _ (⟨77, (⟨(rd_T34 x20_4 x133_4).f1.f0, (rd_T34 x20_4 x133_4).f1.f1⟩ : S26)⟩ : S34) ) (fun _ hk => hk)
                have hx388_0 := hcc388 0 _ rfl
                (try simp only [show (k34).sz = 3 from rfl, Nat.mul_one, Nat.add_zero] at hx388_0)
                have hf388_0 := hfr388 0
                (try simp only [show (k34).sz = 3 from rfl, Nat.mul_one, Nat.add_zero] at hf388_0)
                clear hcl388 hcc388 hfr388 hM388
                have tk390 : True := trivial
                go_upto_region 32 with (first | ((with_reducible refine gate_store (t := 3) (p := 139) rfl ?_); clear tk390; refine store_event (t := 3) (p := 139) (v := ?vo_w389) (w1 := (wr.setCell ⟨go387, (x133_4 : Int).toNat * 3, none⟩ (.int .i64 77))) ?hg ?ho ?hn ?hr ?_; (case ho => rfl); (case hg => rfl); (case hn => rfl); (case hr => first | (go_simp; done) | (go_simp; rfl)); intro w389 hw; have hg : wr.grownBy w389 (some go387) := (by rw [hw]; exact HP388.2); have hp_ : Kd.R k34 34 w389 w.heap.size (fun k_ => some k_ ≠ (u267000 : Value).ownBlock ∧ some k_ ≠ (u267002 : Value).ownBlock ∧ k_ ≠ gb258) (.slice (some ⟨go387, 0, none⟩) x20_4.length co383) y315 := (by rw [hw, Ny315.out]; exact HP388.1); clear HP388; replace HOa := zM (Kd.R_after (v := (.slice (some ⟨go387, 0, none⟩) x20_4.length co383)) (v1 := (.slice (some ⟨go387, 0, none⟩) x20_4.length co383)) (ok := (fun k_ => some k_ ≠ (u267002 : Value).ownBlock ∧ k_ ≠ gb258)) (by (with_reducible repeat (first | apply Kd.R_alloc | apply Kd.R_drewN | apply Kd.R_drew)); exact Kd.R_mono HOa.out (fun _ h => ⟨h.2, h.1⟩)) hg (.inl rfl)); replace HOb := zM (Kd.R_after (v := (.slice (some ⟨go387, 0, none⟩) x20_4.length co383)) (v1 := (.slice (some ⟨go387, 0, none⟩) x20_4.length co383)) (ok := (fun k_ => some k_ ≠ (u267000 : Value).ownBlock ∧ k_ ≠ gb258)) (by (with_reducible repeat (first | apply Kd.R_alloc | apply Kd.R_drewN | apply Kd.R_drew)); exact Kd.R_mono HOb.out (fun _ h => ⟨h.2, h.1⟩)) hg (.inl rfl)); replace HOc := zM (Kd.V_afterv (v := (.slice (some ⟨go387, 0, none⟩) x20_4.length co383)) (v1 := (.slice (some ⟨go387, 0, none⟩) x20_4.length co383)) (ok := (fun k_ => some k_ ≠ (u267000 : Value).ownBlock ∧ some k_ ≠ (u267002 : Value).ownBlock ∧ k_ ≠ gb258 ∧ k_ ≠ gb261 ∧ k_ ≠ gb262 ∧ k_ ≠ gb266 ∧ k_ ≠ gb267)) (by (with_reducible repeat (first | apply Kd.V_alloc | apply Kd.V_drewN | apply Kd.V_drew)); exact Kd.V_mono HOc.out (fun _ h => ⟨h.2, h.1⟩)) hg (.inl rfl)); replace BK258 := (bG_ BK258 hg (Kd.R_away HO_20.out (fun _ hk => hk.2.2))); replace BK261 := (bG_ BK261 hg (Kd.R_ne HO_20.out BK261.out (by decide))); replace BK262 := (bG_ BK262 hg (Kd.R_ne HO_20.out BK262.out (by decide))); replace BK266 := (bG_ BK266 hg (Kd.R_ne HO_20.out BK266.out (by decide))); replace BK267 := (bG_ BK267 hg (Kd.R_ne HO_20.out BK267.out (by decide))); replace HO_20 := zM (hp_); replace HB := zM ((by rw [hw]; exact below_set (HB.out) GB387.out : Below w.heap.size w w389)); clear hg hw hp_))
                have H' := zM H
                clear H
                go_wp2
                (try simp only [← hl20_4])
                go_roundg k4
                case measure => have := HJ9.out; have := HK2.out; have := HJ329.out; have := HK4.out; omega
                case rel => exact ⟨(y315), (wrap64 (x133_4 + 1)), (Xc), (by first | rfl | (simp; done) | (simp [*]; done) | (simp; grind)), H', ⟨by have := HJ9.out; have := HK2.out; have := HJ329.out; have := HK4.out; omega⟩, ⟨by (try simp only [hl20_4]); exact HO_20.out⟩, ⟨by (try simp only [hl20_4]); exact Kd.R_mono HOa.out (fun _ h => ⟨h.2, h.1⟩)⟩, ⟨by (try simp only [hl20_4]); exact Kd.R_mono HOb.out (fun _ h => ⟨h.2, h.1⟩)⟩, ⟨by (try simp only [hl20_4]); exact Kd.V_mono HOc.out (fun _ h => ⟨h.2, h.1⟩)⟩, ⟨by (try simp only [hl20_4]); exact BK258.out⟩, ⟨by (try simp only [hl20_4]); exact BK261.out⟩, ⟨by (try simp only [hl20_4]); exact BK262.out⟩, ⟨by (try simp only [hl20_4]); exact BK266.out⟩, ⟨by (try simp only [hl20_4]); exact BK267.out⟩, ⟨bel_⟩⟩
             rw [if_neg c384] at H
             have c384b0 : decide (x133_4 < (x20_329.length : Int)) = false := decide_eq_false c384
             try have c384b9 : decide (x133_4 < (x20_4.length : Int)) = false := by rw [← hl20_4]; exact c384b0
             clear c384
             have HC391 := zM H
             clear H
             go_upto_region 33 with (fail)
             (try simp only [Act.put, zS, zZ, zC])
             go_cut [23, 24, 25] (fun v23 v24 v25 wc => ∃ (kq : Nat) (x23_390 : Int) (x24_390 : List (S34)) (x25_390 : Bool) (Xd : Int) (Xe : Int), v23 = .int .i64 x23_390 ∧ v25 = .bool x25_390 ∧ Aside0 (ropewaylaw15_SnapRuns_t.j8 kq x19_329 x21_329 x23_390 x24_390 x25_390 X2 Xe X4 X5 X6 X7 X8 X9 = some r) ∧ Aside0 (kq ≤ k4) ∧ Aside0 (Kd.R k34 34 wc w.heap.size (fun k_ => some k_ ≠ (u267000 : Value).ownBlock ∧ some k_ ≠ (u267002 : Value).ownBlock ∧ k_ ≠ gb258) v24 x24_390) ∧ Aside0 (Kd.R k34 34 wc w.heap.size (fun k_ => some k_ ≠ (v24 : Value).ownBlock ∧ some k_ ≠ (u267002 : Value).ownBlock ∧ k_ ≠ gb258) u267000 X2) ∧ Aside0 (Kd.R k34 34 wc w.heap.size (fun k_ => some k_ ≠ (v24 : Value).ownBlock ∧ some k_ ≠ (u267000 : Value).ownBlock ∧ k_ ≠ gb258) u267002 X4) ∧ Aside0 (Kd.V (Kd.slice 34 k34) 27 wc w.heap.size (fun k_ => some k_ ≠ (v24 : Value).ownBlock ∧ some k_ ≠ (u267000 : Value).ownBlock ∧ some k_ ≠ (u267002 : Value).ownBlock ∧ k_ ≠ gb258 ∧ k_ ≠ gb261 ∧ k_ ≠ gb262 ∧ k_ ≠ gb266 ∧ k_ ≠ gb267) u268004 X9) ∧ Aside0 (wc.heap[gb258]? = some (.cells #[.int .i64 Xc, .int .i64 a1_1, .int .i64 a1_2] 34 (0, 0))) ∧ Aside0 (wc.heap[gb261]? = some (.cells #[(.slice none 0 0), .int .i64 Xd, (.slice none 0 0)] 61 (0, 0))) ∧ Aside0 (wc.heap[gb262]? = some (.cells #[.int .i64 a1_1, .int .i64 a1_2] 26 (0, 0))) ∧ Aside0 (wc.heap[gb266]? = some (.cells #[u267000, .int .i64 Xe, u267002] 61 (0, 0))) ∧ Aside0 (wc.heap[gb267]? = some (.cells #[.bool X5, .int .i64 X6, .int .i64 X7, .int .i64 X8, u268004] 38 (0, 0))) ∧ Aside0 (Below w.heap.size w wc))
             case first => as_aux_lemma =>
              have H := HC391.out
              clear HC391
              by_cases c392 : Xb = 4
              · rw [if_pos c392] at H
                have c392b0 : (Xb == 4) = true := beq_iff_eq.mpr c392
                have c392b1 : (Xb != 4) = false := bne_eq_false_iff_eq.mpr c392
                clear c392
                (first | rw [c392b0] | (simp only [i64_w, i32_w]; rw [c392b0]) | skip)
                have H' := zM H
                clear H
                have tk393 : True := trivial
                have tk399 : True := trivial
                go_wp2_with (first | ((with_reducible refine gate_callee (f := 9) rfl ?_); clear tk393; refine goL_ (some 143) Try.func9 #[.pointer (some ⟨gb266, 0, none⟩)] ?_; go_enter Try.func9, Try.ntmps9; have hnb394 := NB266_258.out; have hnc394 := NB258_266.out; have hnb395 := NB266_261.out; have hnc395 := NB261_266.out; have hnb396 := NB266_262.out; have hnc396 := NB262_266.out; have hnb397 := NB266_267.out; have hnc397 := NB267_266.out; have hcz398 := rf3_ BK266.out) | (clear tk399; (first | go_ret | go_ret2 | go_ret3 | go_end0); with_reducible refine inl_back_ ?_))
                go_meet
                case rel => exact ⟨_, (0), (([] : List (S34))), (false), (Xa), (Xb), (by first | rfl | (simp; done) | (simp [*]; done) | (simp; grind)), (by first | rfl | (simp; done) | (simp [*]; done) | (simp; grind)), H', ⟨by have := HJ9.out; have := HK2.out; have := HJ329.out; have := HK4.out; first | omega | exact Nat.le_refl _⟩, ⟨by (try simp only [hl20_4]); first | exact Kd.R_nil _ _ _ _ _ | exact Kd.N_nil _ _ _ _ _ | exact Kd.V_nil _ _ _ _ _ | exact Kd.Q_nil _ _ _ _ _ | exact Kd.S_nil _ _ _ _ _⟩, ⟨by (try simp only [hl20_4]); exact Kd.R_mono HOa.out (fun _ h => ⟨(by simp [Value.ownBlock]), h.2⟩)⟩, ⟨by (try simp only [hl20_4]); exact Kd.R_mono HOb.out (fun _ h => ⟨(by simp [Value.ownBlock]), h.2⟩)⟩, ⟨by (try simp only [hl20_4]); exact Kd.V_mono HOc.out (fun _ h => ⟨(by simp [Value.ownBlock]), h.2⟩)⟩, ⟨by (try simp only [hl20_4]); exact BK258.out⟩, ⟨by (try simp only [hl20_4]); exact BK261.out⟩, ⟨by (try simp only [hl20_4]); exact BK262.out⟩, ⟨by (try simp only [hl20_4]); exact BK266.out⟩, ⟨by (try simp only [hl20_4]); exact BK267.out⟩, ⟨bel_⟩⟩
              rw [if_neg c392] at H
              have c392b0 : (Xb == 4) = false := beq_eq_false_iff_ne.mpr c392
              have c392b1 : (Xb != 4) = true := bne_iff_ne.mpr c392
              (first | rw [c392b0] | (simp only [i64_w, i32_w]; rw [c392b0]) | skip)
              by_cases c400 : Xb = 0
              · rw [if_pos c400] at H
                have c400b0 : (Xb == 0) = true := beq_iff_eq.mpr c400
                have c400b1 : (Xb != 0) = false := bne_eq_false_iff_eq.mpr c400
                clear c400
                have H' := zM H
                clear H
                have tk401 : True := trivial
                have tk407 : True := trivial
                go_wp2_with (first | ((with_reducible refine gate_callee (f := 9) rfl ?_); clear tk401; refine goL_ (some 143) Try.func9 #[.pointer (some ⟨gb266, 0, none⟩)] ?_; go_enter Try.func9, Try.ntmps9; have hnb402 := NB266_258.out; have hnc402 := NB258_266.out; have hnb403 := NB266_261.out; have hnc403 := NB261_266.out; have hnb404 := NB266_262.out; have hnc404 := NB262_266.out; have hnb405 := NB266_267.out; have hnc405 := NB267_266.out; have hcz406 := rf3_ BK266.out) | (clear tk407; (first | go_ret | go_ret2 | go_ret3 | go_end0); with_reducible refine inl_back_ ?_))
                go_meet
                case rel => exact ⟨_, (0), (([] : List (S34))), (true), (Xa), (Xb), (by first | rfl | (simp; done) | (simp [*]; done) | (simp; grind)), (by first | rfl | (simp; done) | (simp [*]; done) | (simp; grind)), H', ⟨by have := HJ9.out; have := HK2.out; have := HJ329.out; have := HK4.out; first | omega | exact Nat.le_refl _⟩, ⟨by (try simp only [hl20_4]); first | exact Kd.R_nil _ _ _ _ _ | exact Kd.N_nil _ _ _ _ _ | exact Kd.V_nil _ _ _ _ _ | exact Kd.Q_nil _ _ _ _ _ | exact Kd.S_nil _ _ _ _ _⟩, ⟨by (try simp only [hl20_4]); exact Kd.R_mono HOa.out (fun _ h => ⟨(by simp [Value.ownBlock]), h.2⟩)⟩, ⟨by (try simp only [hl20_4]); exact Kd.R_mono HOb.out (fun _ h => ⟨(by simp [Value.ownBlock]), h.2⟩)⟩, ⟨by (try simp only [hl20_4]); exact Kd.V_mono HOc.out (fun _ h => ⟨(by simp [Value.ownBlock]), h.2⟩)⟩, ⟨by (try simp only [hl20_4]); exact BK258.out⟩, ⟨by (try simp only [hl20_4]); exact BK261.out⟩, ⟨by (try simp only [hl20_4]); exact BK262.out⟩, ⟨by (try simp only [hl20_4]); exact BK266.out⟩, ⟨by (try simp only [hl20_4]); exact BK267.out⟩, ⟨bel_⟩⟩
              rw [if_neg c400] at H
              have c400b0 : (Xb == 0) = false := beq_eq_false_iff_ne.mpr c400
              have c400b1 : (Xb != 0) = true := bne_iff_ne.mpr c400
              by_cases c408 : Xb = 2
              · rw [if_pos c408] at H
                have c408b0 : (Xb == 2) = true := beq_iff_eq.mpr c408
                have c408b1 : (Xb != 2) = false := bne_eq_false_iff_eq.mpr c408
                clear c408
                have H' := zM H
                clear H
                have tk409 : True := trivial
                have tk415 : True := trivial
                go_wp2_with (first | ((with_reducible refine gate_callee (f := 9) rfl ?_); clear tk409; refine goL_ (some 143) Try.func9 #[.pointer (some ⟨gb266, 0, none⟩)] ?_; go_enter Try.func9, Try.ntmps9; have hnb410 := NB266_258.out; have hnc410 := NB258_266.out; have hnb411 := NB266_261.out; have hnc411 := NB261_266.out; have hnb412 := NB266_262.out; have hnc412 := NB262_266.out; have hnb413 := NB266_267.out; have hnc413 := NB267_266.out; have hcz414 := rf3_ BK266.out) | (clear tk415; (first | go_ret | go_ret2 | go_ret3 | go_end0); with_reducible refine inl_back_ ?_))
                go_meet
                case rel => exact ⟨_, (0), (([] : List (S34))), (true), (Xa), (Xb), (by first | rfl | (simp; done) | (simp [*]; done) | (simp; grind)), (by first | rfl | (simp; done) | (simp [*]; done) | (simp; grind)), H', ⟨by have := HJ9.out; have := HK2.out; have := HJ329.out; have := HK4.out; first | omega | exact Nat.le_refl _⟩, ⟨by (try simp only [hl20_4]); first | exact Kd.R_nil _ _ _ _ _ | exact Kd.N_nil _ _ _ _ _ | exact Kd.V_nil _ _ _ _ _ | exact Kd.Q_nil _ _ _ _ _ | exact Kd.S_nil _ _ _ _ _⟩, ⟨by (try simp only [hl20_4]); exact Kd.R_mono HOa.out (fun _ h => ⟨(by simp [Value.ownBlock]), h.2⟩)⟩, ⟨by (try simp only [hl20_4]); exact Kd.R_mono HOb.out (fun _ h => ⟨(by simp [Value.ownBlock]), h.2⟩)⟩, ⟨by (try simp only [hl20_4]); exact Kd.V_mono HOc.out (fun _ h => ⟨(by simp [Value.ownBlock]), h.2⟩)⟩, ⟨by (try simp only [hl20_4]); exact BK258.out⟩, ⟨by (try simp only [hl20_4]); exact BK261.out⟩, ⟨by (try simp only [hl20_4]); exact BK262.out⟩, ⟨by (try simp only [hl20_4]); exact BK266.out⟩, ⟨by (try simp only [hl20_4]); exact BK267.out⟩, ⟨bel_⟩⟩
              rw [if_neg c408] at H
              have c408b0 : (Xb == 2) = false := beq_eq_false_iff_ne.mpr c408
              have c408b1 : (Xb != 2) = true := bne_iff_ne.mpr c408
              replace H := Option.bind_eq_some_iff.mp H
              obtain ⟨t316, A4160, H⟩ := H
              replace H : (if t316 = true then ((api_Cell.f X2).bind fun t317 => (ropewaylaw15_SnapRuns_t.j8 k4 x19_329 x21_329 1 t317 true X2 Xb X4 X5 X6 X7 X8 X9)) else ((api_Cell.f X4).bind fun t320 => (ropewaylaw15_SnapRuns_t.j8 k4 x19_329 x21_329 1 t320 true X2 Xb X4 X5 X6 X7 X8 X9))) = some r := H
              have A416 := zM A4160
              clear A4160
              by_cases c417 : t316 = true
              ·
               subst c417
               have H1 : ((api_Cell.f X2).bind fun t317 => (ropewaylaw15_SnapRuns_t.j8 k4 x19_329 x21_329 1 t317 true X2 Xb X4 X5 X6 X7 X8 X9)) = some r := by rw [if_pos rfl] at H; exact H
               clear H
               have H := H1
               clear H1
               replace H := Option.bind_eq_some_iff.mp H
               obtain ⟨t317, A4180, H⟩ := H
               replace H : (ropewaylaw15_SnapRuns_t.j8 k4 x19_329 x21_329 1 t317 true X2 Xb X4 X5 X6 X7 X8 X9) = some r := H
               have A418 := zM A4180
               clear A4180
               have H' := zM H
               clear H
               have tk419 : True := trivial
               have tk427 : True := trivial
               have tk429 : True := trivial
               have tk430 : True := trivial
               go_wp2_with (first | ((with_reducible refine gate_callee (f := 9) rfl ?_); clear tk419; refine goL_ (some 143) Try.func9 #[.pointer (some ⟨gb266, 0, none⟩)] ?_; go_enter Try.func9, Try.ntmps9; have hnb420 := NB266_258.out; have hnc420 := NB258_266.out; have hnb421 := NB266_261.out; have hnc421 := NB261_266.out; have hnb422 := NB266_262.out; have hnc422 := NB262_266.out; have hnb423 := NB266_267.out; have hnc423 := NB267_266.out; have hcz424 := rf3_ BK266.out; obtain ⟨Ao425, co425, eo425⟩ := Kd.R_slice HOa.out; subst eo425; obtain ⟨Ao426, co426, eo426⟩ := Kd.R_slice HOb.out; subst eo426) | ((with_reducible refine gate_callee (f := 11) rfl ?_); clear tk427; refine goL_ (some 24) Try.func11 #[.pointer (some ⟨gb266, 0, none⟩)] ?_; (with_reducible refine (snap_Snap_Own.calls gb266 Ao425 co425 X2 Xb Ao426 co426 X4 true _ ?side1 ?side2 ?side3 ?side4 ?side5 A416.out).mono ?_); (case side1 => exact (Kd.R_reads' HOa.out).2.2); (case side2 => exact (Kd.R_reads' HOa.out).2.1); (case side3 => exact (Kd.R_reads' HOb.out).2.2); (case side4 => exact (Kd.R_reads' HOb.out).2.1); (case side5 => exact blf_); rintro e w' ⟨rfl, ⟨nd, rfl⟩⟩; refine ⟨_, rfl, ?_⟩) | ((with_reducible refine gate_callee (f := 25) rfl ?_); clear tk429; refine goL_ (some 29) Try.func25 #[.slice Ao425 X2.length co425] ?_; (with_reducible refine (api_Cell.calls _ _ X2 t317 _ ?side1 ?side2 A418.out).mono ?_); (case side1 => exact (Kd.R_reads' HOa.out).2.2); (case side2 => exact (Kd.R_reads' HOa.out).2.1); rintro e w428 ⟨v318, rfl, ho0, hb⟩; refine ⟨_, rfl, ?_⟩; replace HOc := zM (Kd.V_elder' (rv_ HOc) (Kd.R_base ho0) hb); have HO319 := zM (Kd.R_lower (Kd.R_newB (Kd.R_new' (Kd.R_new' (Kd.R_new' ho0 (Kd.R_lt (rl_ HO_20))) (Kd.R_lt (rl_ HOa))) (Kd.R_lt (rl_ HOb))) (g := gb258) (o := .cells #[.int .i64 Xc, .int .i64 a1_1, .int .i64 a1_2] 34 (0, 0)) blk_) (below_size bel_)); replace HO_20 := zM (Kd.R_elder' (rl_ HO_20) (Kd.R_base ho0) hb); replace HOa := zM (Kd.R_elder' (rl_ HOa) (Kd.R_base ho0) hb); replace HOb := zM (Kd.R_elder' (rl_ HOb) (Kd.R_base ho0) hb); replace BK258 := zM (bb_ BK258 hb); replace BK261 := zM (bb_ BK261 hb); replace BK262 := zM (bb_ BK262 hb); replace BK266 := zM (bb_ BK266 hb); replace BK267 := zM (bb_ BK267 hb); replace HB := zM (zB bel_ hb); (try clear hb); (try clear ho0)) | (clear tk430; (first | go_ret | go_ret2 | go_ret3 | go_end0); with_reducible refine inl_back_ ?_))
               go_meet
               case rel => exact ⟨_, (1), (t317), (true), (Xa), (Xb), (by first | rfl | (simp; done) | (simp [*]; done) | (simp; grind)), (by first | rfl | (simp; done) | (simp [*]; done) | (simp; grind)), H', ⟨by have := HJ9.out; have := HK2.out; have := HJ329.out; have := HK4.out; first | omega | exact Nat.le_refl _⟩, ⟨by (try simp only [hl20_4]); exact Kd.R_mono HO319.out (fun _ h => ⟨h.1.1.2, h.1.2, h.2⟩)⟩, ⟨by (try simp only [hl20_4]); exact Kd.R_mono HOa.out (fun _ h => ⟨h.2, h.1.2⟩)⟩, ⟨by (try simp only [hl20_4]); exact Kd.R_mono HOb.out (fun _ h => ⟨h.2, h.1.2⟩)⟩, ⟨by (try simp only [hl20_4]); exact Kd.V_mono HOc.out (fun _ h => ⟨h.2, h.1.2⟩)⟩, ⟨by (try simp only [hl20_4]); exact BK258.out⟩, ⟨by (try simp only [hl20_4]); exact BK261.out⟩, ⟨by (try simp only [hl20_4]); exact BK262.out⟩, ⟨by (try simp only [hl20_4]); exact BK266.out⟩, ⟨by (try simp only [hl20_4]); exact BK267.out⟩, ⟨bel_⟩⟩
              replace c417 := Bool.eq_false_iff.mpr c417
              subst c417
              have H1 : ((api_Cell.f X4).bind fun t320 => (ropewaylaw15_SnapRuns_t.j8 k4 x19_329 x21_329 1 t320 true X2 Xb X4 X5 X6 X7 X8 X9)) = some r := by rw [if_neg (show ¬ (false = true) by decide)] at H; exact H
              clear H
              have H := H1
              clear H1
              replace H := Option.bind_eq_some_iff.mp H
              obtain ⟨t320, A4310, H⟩ := H
              replace H : (ropewaylaw15_SnapRuns_t.j8 k4 x19_329 x21_329 1 t320 true X2 Xb X4 X5 X6 X7 X8 X9) = some r := H
              have A431 := zM A4310
              clear A4310
              have H' := zM H
              clear H
              have tk432 : True := trivial
              have tk440 : True := trivial
              have tk442 : True := trivial
              have tk443 : True := trivial
              go_wp2_with (first | ((with_reducible refine gate_callee (f := 9) rfl ?_); clear tk432; refine goL_ (some 143) Try.func9 #[.pointer (some ⟨gb266, 0, none⟩)] ?_; go_enter Try.func9, Try.ntmps9; have hnb433 := NB266_258.out; have hnc433 := NB258_266.out; have hnb434 := NB266_261.out; have hnc434 := NB261_266.out; have hnb435 := NB266_262.out; have hnc435 := NB262_266.out; have hnb436 := NB266_267.out; have hnc436 := NB267_266.out; have hcz437 := rf3_ BK266.out; obtain ⟨Ao438, co438, eo438⟩ := Kd.R_slice HOa.out; subst eo438; obtain ⟨Ao439, co439, eo439⟩ := Kd.R_slice HOb.out; subst eo439) | ((with_reducible refine gate_callee (f := 11) rfl ?_); clear tk440; refine goL_ (some 24) Try.func11 #[.pointer (some ⟨gb266, 0, none⟩)] ?_; (with_reducible refine (snap_Snap_Own.calls gb266 Ao438 co438 X2 Xb Ao439 co439 X4 false _ ?side1 ?side2 ?side3 ?side4 ?side5 A416.out).mono ?_); (case side1 => exact (Kd.R_reads' HOa.out).2.2); (case side2 => exact (Kd.R_reads' HOa.out).2.1); (case side3 => exact (Kd.R_reads' HOb.out).2.2); (case side4 => exact (Kd.R_reads' HOb.out).2.1); (case side5 => exact blf_); rintro e w' ⟨rfl, ⟨nd, rfl⟩⟩; refine ⟨_, rfl, ?_⟩) | ((with_reducible refine gate_callee (f := 25) rfl ?_); clear tk442; refine goL_ (some 34) Try.func25 #[.slice Ao439 X4.length co439] ?_; (with_reducible refine (api_Cell.calls _ _ X4 t320 _ ?side1 ?side2 A431.out).mono ?_); (case side1 => exact (Kd.R_reads' HOb.out).2.2); (case side2 => exact (Kd.R_reads' HOb.out).2.1); rintro e w441 ⟨v321, rfl, ho0, hb⟩; refine ⟨_, rfl, ?_⟩; replace HOc := zM (Kd.V_elder' (rv_ HOc) (Kd.R_base ho0) hb); have HO322 := zM (Kd.R_lower (Kd.R_newB (Kd.R_new' (Kd.R_new' (Kd.R_new' ho0 (Kd.R_lt (rl_ HO_20))) (Kd.R_lt (rl_ HOa))) (Kd.R_lt (rl_ HOb))) (g := gb258) (o := .cells #[.int .i64 Xc, .int .i64 a1_1, .int .i64 a1_2] 34 (0, 0)) blk_) (below_size bel_)); replace HO_20 := zM (Kd.R_elder' (rl_ HO_20) (Kd.R_base ho0) hb); replace HOa := zM (Kd.R_elder' (rl_ HOa) (Kd.R_base ho0) hb); replace HOb := zM (Kd.R_elder' (rl_ HOb) (Kd.R_base ho0) hb); replace BK258 := zM (bb_ BK258 hb); replace BK261 := zM (bb_ BK261 hb); replace BK262 := zM (bb_ BK262 hb); replace BK266 := zM (bb_ BK266 hb); replace BK267 := zM (bb_ BK267 hb); replace HB := zM (zB bel_ hb); (try clear hb); (try clear ho0)) | (clear tk443; (first | go_ret | go_ret2 | go_ret3 | go_end0); with_reducible refine inl_back_ ?_))
              go_meet
              case rel => exact ⟨_, (1), (t320), (true), (Xa), (Xb), (by first | rfl | (simp; done) | (simp [*]; done) | (simp; grind)), (by first | rfl | (simp; done) | (simp [*]; done) | (simp; grind)), H', ⟨by have := HJ9.out; have := HK2.out; have := HJ329.out; have := HK4.out; first | omega | exact Nat.le_refl _⟩, ⟨by (try simp only [hl20_4]); exact Kd.R_mono HO322.out (fun _ h => ⟨h.1.1.2, h.1.2, h.2⟩)⟩, ⟨by (try simp only [hl20_4]); exact Kd.R_mono HOa.out (fun _ h => ⟨h.2, h.1.2⟩)⟩, ⟨by (try simp only [hl20_4]); exact Kd.R_mono HOb.out (fun _ h => ⟨h.2, h.1.2⟩)⟩, ⟨by (try simp only [hl20_4]); exact Kd.V_mono HOc.out (fun _ h => ⟨h.2, h.1.2⟩)⟩, ⟨by (try simp only [hl20_4]); exact BK258.out⟩, ⟨by (try simp only [hl20_4]); exact BK261.out⟩, ⟨by (try simp only [hl20_4]); exact BK262.out⟩, ⟨by (try simp only [hl20_4]); exact BK266.out⟩, ⟨by (try simp only [hl20_4]); exact BK267.out⟩, ⟨bel_⟩⟩
             case rest => as_aux_lemma =>
              clear HC391
              try clear c2
              try clear c11
              try clear c14
              try clear c25
              try clear c58
              try clear c58b0
              try clear c59
              try clear c60
              try clear c62
              try clear c62b0
              try clear c62b1
              try clear c65
              try clear p268
              try clear q268
              try clear c308
              try clear c308b0
              try clear c308b1
              try clear c310
              try clear c311
              try clear c311b0
              try clear c311b1
              try clear c311b2
              try clear c327
              try clear c331
              try clear c331b0
              try clear c331b1
              try clear c339
              try clear c339b0
              try clear c339b1
              try clear c347
              try clear c347b0
              try clear c347b1
              try clear c356
              try clear c384
              try clear c384b0
              try clear c385
              try clear c385b0
              try clear c386
              try clear c386b0
              try clear p387
              try clear q387
              try clear c392
              try clear c392b0
              try clear c392b1
              try clear c400
              try clear c400b0
              try clear c400b1
              try clear c408
              try clear c408b0
              try clear c408b1
              try clear c417
              try clear hcz337
              try clear hcz345
              try clear hcz353
              try clear hcz363
              try clear hcz376
              try clear hcz398
              try clear hcz406
              try clear hcz414
              try clear hcz424
              try clear hcz437
              try clear hx268_0
              try clear hx387_0
              try clear hx387_1
              try clear hx387_2
              try clear hx388_0
              try clear p268
              try clear p387
              try clear q268
              try clear q387
              obtain ⟨kq, x23_390, x24_390, x25_390, Xd, Xe, rfl, rfl, HA, HJ390, HO_24, HOa, HOb, HOc, BK258, BK261, BK262, BK266, BK267, HB⟩ := hcut
              cases kq with
              | zero => exact absurd HA.out (by simp [ropewaylaw15_SnapRuns_t.j8])
              | succ kj390 =>
               have H := HA.out
               clear HA
               simp only [ropewaylaw15_SnapRuns_t.j8] at H
               by_cases c444 : x19_329 = x23_390
               rotate_left
               · rw [if_neg c444] at H
                 have c444b0 : (x19_329 == x23_390) = false := beq_eq_false_iff_ne.mpr c444
                 have c444b1 : (x19_329 != x23_390) = true := bne_iff_ne.mpr c444
                 exact absurd (Option.some.inj H) (by rw [hr1_.out]; decide)
               as_aux_lemma =>
                rw [if_pos c444] at H
                have c444b0 : (x19_329 == x23_390) = true := beq_iff_eq.mpr c444
                have c444b1 : (x19_329 != x23_390) = false := bne_eq_false_iff_eq.mpr c444
                clear c444
                by_cases c445 : (x21_329 == x25_390) = true
                rotate_left
                · rw [if_neg c445] at H
                  have c445b0 : (x21_329 == x25_390) = false := by simpa using c445
                  (try (have c445b1 : decide (x21_329 = x25_390) = false := by simpa using c445))
                  (try (have c445b2 : (x21_329 == x25_390) = false := by simpa using c445))
                  (try (have c445b3 : ¬ (x21_329 = x25_390) := by simpa using c445))
                  clear c445
                  exact absurd (Option.some.inj H) (by rw [hr1_.out]; decide)
                as_aux_lemma =>
                 rw [if_pos c445] at H
                 have c445b0 : (x21_329 == x25_390) = true := c445
                 (try (have c445b1 : decide (x21_329 = x25_390) = true := by simpa using c445))
                 (try (have c445b2 : (x21_329 == x25_390) = true := by simpa using c445))
                 clear c445
                 by_cases c446 : (x24_390.length : Int) = 0
                 ·
                  rw [if_pos c446] at H
                  have c446b0 : ((x24_390.length : Int) == 0) = true := beq_iff_eq.mpr c446
                  have c446b1 : ((x24_390.length : Int) != 0) = false := bne_eq_false_iff_eq.mpr c446
                  clear c446
                  by_cases c447 : x21_329 = true
                  ·
                   subst c447
                   have H1 : (some true) = some r := by rw [if_pos rfl] at H; exact H
                   clear H
                   have H := H1
                   clear H1
                   obtain rfl := Option.some.inj H
                   try go_wp2
                   obtain ⟨Ao449, co449, eo449⟩ := Kd.R_slice HO_24.out
                   (first | subst eo449 | (injection eo449 with f1_ f2_ f3_; have f4_ := f1_.symm; have f5_ := f3_.symm; clear f1_ f2_ f3_; subst f4_; subst f5_))
                   go_quiet (fail)
                   replace HO_24 := zM (Kd.R_drewN HO_24.out nq)
                   replace HOa := zM (Kd.R_drewN HOa.out nq)
                   replace HOb := zM (Kd.R_drewN HOb.out nq)
                   replace HOc := zM (Kd.V_drewN HOc.out nq)
                   replace BK258 := zM (zN BK258.out nq)
                   replace BK261 := zM (zN BK261.out nq)
                   replace BK262 := zM (zN BK262.out nq)
                   replace BK266 := zM (zN BK266.out nq)
                   replace BK267 := zM (zN BK267.out nq)
                   replace HB := zM (pw_below_drewN HB.out nq)
                   generalize wc.drewN nq = w448 at HO_24 HOa HOb HOc BK258 BK261 BK262 BK266 BK267 HB ⊢
                   try go_wp2
                   go_ret
                   exact ⟨by first | rfl | (simp [errW_none, errW_some] <;> rfl) | (simp [*, errW_none, errW_some] <;> rfl), bel_⟩
                  replace c447 := Bool.eq_false_iff.mpr c447
                  subst c447
                  have H1 : ((snap_Snap_Found.f kj390 X2 Xe X4).bind fun t323 => ((ropewayref15_Found.f kj390 X5 X6 X7 X8 X9).bind fun t326 => ((ropewayref05_Same.f kj390 t323 t326).bind fun t329 => (some t329)))) = some r := by rw [if_neg (show ¬ (false = true) by decide)] at H; exact H
                  clear H
                  have H := H1
                  clear H1
                  replace H := Option.bind_eq_some_iff.mp H
                  obtain ⟨t323, A4500, H⟩ := H
                  replace H : ((ropewayref15_Found.f kj390 X5 X6 X7 X8 X9).bind fun t326 => ((ropewayref05_Same.f kj390 t323 t326).bind fun t329 => (some t329))) = some r := H
                  have A450 := zM A4500
                  clear A4500
                  replace H := Option.bind_eq_some_iff.mp H
                  obtain ⟨t326, A4510, H⟩ := H
                  replace H : ((ropewayref05_Same.f kj390 t323 t326).bind fun t329 => (some t329)) = some r := H
                  have A451 := zM A4510
                  clear A4510
                  replace H := Option.bind_eq_some_iff.mp H
                  obtain ⟨t329, A4520, H⟩ := H
                  replace H : (some t329) = some r := H
                  have A452 := zM A4520
                  clear A4520
                  obtain rfl := Option.some.inj H
                  try go_wp2
                  replace HO_24 := zM (Kd.R_drew HO_24.out)
                  replace HOa := zM (Kd.R_drew HOa.out)
                  replace HOb := zM (Kd.R_drew HOb.out)
                  replace HOc := zM (Kd.V_drew HOc.out)
                  replace BK258 := zM (zD BK258.out)
                  replace BK261 := zM (zD BK261.out)
                  replace BK262 := zM (zD BK262.out)
                  replace BK266 := zM (zD BK266.out)
                  replace BK267 := zM (zD BK267.out)
                  replace HB := zM (below_drew1 HB.out)
                  obtain ⟨Ao454, co454, eo454⟩ := Kd.R_slice HO_24.out
                  (first | subst eo454 | (injection eo454 with f1_ f2_ f3_; have f4_ := f1_.symm; have f5_ := f3_.symm; clear f1_ f2_ f3_; subst f4_; subst f5_))
                  obtain ⟨Ao455, co455, eo455⟩ := Kd.R_slice HOa.out
                  (first | subst eo455 | (injection eo455 with f1_ f2_ f3_; have f4_ := f1_.symm; have f5_ := f3_.symm; clear f1_ f2_ f3_; subst f4_; subst f5_))
                  obtain ⟨Ao456, co456, eo456⟩ := Kd.R_slice HOb.out
                  (first | subst eo456 | (injection eo456 with f1_ f2_ f3_; have f4_ := f1_.symm; have f5_ := f3_.symm; clear f1_ f2_ f3_; subst f4_; subst f5_))
                  refine start_ (n := 31) (S := fun w' => cz5_ w' gb267 (.bool X5) (.int .i64 X6) (.int .i64 X7) (.int .i64 X8) (u268004)) (ds := []) #[F_, F_, F_, F_, F_, F_, F_, F_, F_, F_, F_, F_, F_, F_, F_, F_, F_, F_, F_, F_, F_, F_, F_, F_, F_, F_, F_, F_, F_, F_, F_] (by kernel_rfl) rfl rfl (r5_ BK267.out) (fun hHeld => ?_); refine with_tabW ropewaylaw15_SnapRuns_t.tab34 ropewaylaw15_SnapRuns_t.bits34 (fun HT_ HW_ => ?_)
                  generalize wc.drew = w453 at HO_24 HOa HOb HOc BK258 BK261 BK262 BK266 BK267 HB hHeld ⊢
                  refine put_ HT_ 0 147 (dm_ 31 1) ?_
                  refine put_ HT_ 1 148 (dm_ 31 3) ?_
                  refine put_ HT_ 2 149 (dm_ 31 7) ?_
                  refine put_ HT_ 3 150 (dm_ 31 15) ?_
                  refine put_ HT_ 4 151 (dm_ 31 31) ?_
                  refine put_ HT_ 5 152 (dm_ 31 63) ?_
                  refine put_ HT_ 6 153 (dm_ 31 127) ?_
                  refine put_ HT_ 7 154 (dm_ 31 255) ?_
                  refine put_ HT_ 8 155 (dm_ 31 511) ?_
                  refine put_ HT_ 9 156 (dm_ 31 1023) ?_
                  refine put_ HT_ 10 157 (dm_ 31 2047) ?_
                  refine put_ HT_ 11 158 (dm_ 31 4095) ?_
                  refine put_ HT_ 12 159 (dm_ 31 8191) ?_
                  refine pzt_ HT_ 13 160 (dm_ 31 16383) ?_
                  refine pzt_ HT_ 14 161 (dm_ 31 32767) ?_
                  refine pzt_ HT_ 15 162 (dm_ 31 65535) ?_
                  refine pzt_ HT_ 16 163 (dm_ 31 131071) ?_
                  refine pzt_ HT_ 17 164 (dm_ 31 262143) ?_
                  refine put_ HT_ 18 165 (dm_ 31 524287) ?_
                  refine put_ HT_ 19 166 (dm_ 31 1048575) ?_
                  refine put_ HT_ 20 167 (dm_ 31 2097151) ?_
                  refine put_ HT_ 21 168 (dm_ 31 4194303) ?_
                  refine put_ HT_ 22 169 (dm_ 31 8388607) ?_
                  refine put_ HT_ 23 170 (dm_ 31 16777215) ?_
                  refine tkt_ HT_ HW_ hHeld 25 172 (dm_ 31 50331647) ?_
                  refine one_ (i := 24) (N := some 171) (dm_ 31 67108863) rfl rfl (one_of HT_.out (by kernel_rfl)) (by decide) (fun K hK => ?_)
                  first | refine goes_ Try.func12 (by kernel_rfl) rfl #[.pointer (some ⟨gb266, 0, none⟩)] (by rfl) rfl rfl (by (try simp only [List.map_toArray, List.map_cons, List.map_nil]); first | done | rfl | (simp only [List.length_drop, List.length_take]; rfl)) ?_ | refine goesT_ Try.func12 (by kernel_rfl) rfl #[.pointer (some ⟨gb266, 0, none⟩)] (by rfl) rfl rfl (by rfl) (by (try simp only [List.map_toArray, List.map_cons, List.map_nil]); first | done | rfl | (simp only [List.length_drop, List.length_take]; rfl)) ?_
                  with_reducible refine (snap_Snap_Found.calls kj390 gb266 Ao455 co455 X2 Xe Ao456 co456 X4 t323 _ ?side1 ?side2 ?side3 ?side4 ?side5 A450.out).mono ?_
                  (case side1 => exact (Kd.R_reads' HOa.out).2.2)
                  (case side2 => exact (Kd.R_reads' HOa.out).2.1)
                  (case side3 => exact (Kd.R_reads' HOb.out).2.2)
                  (case side4 => exact (Kd.R_reads' HOb.out).2.1)
                  (case side5 => exact blf_)
                  rintro e w457 ⟨v324, rfl, ho0, hb⟩
                  refine ⟨_, rfl, ?_⟩
                  replace HO_24 := zM (Kd.R_below (rl_ HO_24) hb)
                  replace HOa := zM (Kd.R_below (rl_ HOa) hb)
                  replace HOb := zM (Kd.R_below (rl_ HOb) hb)
                  replace HOc := zM (Kd.V_elder' (rv_ HOc) (Kd.R_base ho0) hb)
                  have HO325 := zM (Kd.R_lower (Kd.R_newB ho0 (g := gb262) (o := .cells #[.int .i64 a1_1, .int .i64 a1_2] 26 (0, 0)) blk_) (below_size bel_))
                  replace BK258 := zM (bb_ BK258 hb)
                  replace BK261 := zM (bb_ BK261 hb)
                  replace BK262 := zM (bb_ BK262 hb)
                  replace BK266 := zM (bb_ BK266 hb)
                  replace BK267 := zM (bb_ BK267 hb)
                  replace HB := zM (zB bel_ hb)
                  (try clear hb)
                  (try clear hb2)
                  (try clear hk)
                  (try clear hi)
                  (try clear ho0)
                  obtain ⟨Ao458, co458, eo458⟩ := Kd.V_slice HOc.out
                  (first | subst eo458 | (injection eo458 with f1_ f2_ f3_; have f4_ := f1_.symm; have f5_ := f3_.symm; clear f1_ f2_ f3_; subst f4_; subst f5_))
                  refine hK.out _ _ (r5_ BK267.out) (fun hHeld => ?_)
                  clear hK K
                  refine norm_ (a' := ?_) ?_ ?_
                  rotate_left
                  · show Act.put _ (some 171) _ = _
                    simp only [Act.put, zS, zZ, zC, i64_w, i32_w]
                    rfl
                  refine one_ (i := 26) (N := some 173) (dm_ 31 134217727) rfl rfl (one_of HT_.out (by kernel_rfl)) (by decide) (fun K hK => ?_)
                  first | refine goes_ Try.func21 (by kernel_rfl) rfl #[.agg #[.bool X5, .int .i64 X6, .int .i64 X7, .int .i64 X8, .slice Ao458 X9.length co458]] (by rfl) rfl rfl (by (try simp only [List.map_toArray, List.map_cons, List.map_nil]); first | done | rfl | (simp only [List.length_drop, List.length_take]; rfl)) ?_ | refine goesT_ Try.func21 (by kernel_rfl) rfl #[.agg #[.bool X5, .int .i64 X6, .int .i64 X7, .int .i64 X8, .slice Ao458 X9.length co458]] (by rfl) rfl rfl (by rfl) (by (try simp only [List.map_toArray, List.map_cons, List.map_nil]); first | done | rfl | (simp only [List.length_drop, List.length_take]; rfl)) ?_
                  with_reducible refine (ropewayref15_Found.calls kj390 X5 X6 X7 X8 _ _ X9 t326 _ ?side1 ?side2 A451.out).mono ?_
                  (case side1 => repeat (first | exact (Kd.V_reads' HOc.out).2.2 | (with_reducible refine Kd.C_alloc ?_ _) | (with_reducible refine Kd.C_drewN ?_ _) | (with_reducible refine Kd.C_drew ?_)))
                  (case side2 => exact (Kd.V_reads' HOc.out).2.1)
                  rintro e w459 ⟨v327, rfl, ho0, hb⟩
                  refine ⟨_, rfl, ?_⟩
                  replace HO_24 := zM (Kd.R_below (rl_ HO_24) hb)
                  replace HOa := zM (Kd.R_below (rl_ HOa) hb)
                  replace HOb := zM (Kd.R_below (rl_ HOb) hb)
                  replace HOc := zM (Kd.V_elder' (rv_ HOc) (Kd.R_base ho0) hb)
                  have HO328 := zM (Kd.R_lower (Kd.R_newB (Kd.R_new' ho0 (Kd.R_lt (rl_ HO325))) (g := gb262) (o := .cells #[.int .i64 a1_1, .int .i64 a1_2] 26 (0, 0)) blk_) (below_size bel_))
                  replace HO325 := zM (Kd.R_elder' (rl_ HO325) (Kd.R_base ho0) hb)
                  replace BK258 := zM (bb_ BK258 hb)
                  replace BK261 := zM (bb_ BK261 hb)
                  replace BK262 := zM (bb_ BK262 hb)
                  replace BK266 := zM (bb_ BK266 hb)
                  replace BK267 := zM (bb_ BK267 hb)
                  replace HB := zM (zB bel_ hb)
                  (try clear hb)
                  (try clear hb2)
                  (try clear hk)
                  (try clear hi)
                  (try clear ho0)
                  obtain ⟨Ao460, co460, eo460⟩ := Kd.R_slice HO325.out
                  (first | subst eo460 | (injection eo460 with f1_ f2_ f3_; have f4_ := f1_.symm; have f5_ := f3_.symm; clear f1_ f2_ f3_; subst f4_; subst f5_))
                  obtain ⟨Ao461, co461, eo461⟩ := Kd.R_slice HO328.out
                  (first | subst eo461 | (injection eo461 with f1_ f2_ f3_; have f4_ := f1_.symm; have f5_ := f3_.symm; clear f1_ f2_ f3_; subst f4_; subst f5_))
                  refine hK.out _ _ (r5_ BK267.out) (fun hHeld => ?_)
                  clear hK K
                  refine norm_ (a' := ?_) ?_ ?_
                  rotate_left
                  · show Act.put _ (some 173) _ = _
                    simp only [Act.put, zS, zZ, zC, i64_w, i32_w]
                    rfl
                  refine one_ (i := 27) (N := some 174) (dm_ 31 268435455) rfl rfl (one_of HT_.out (by kernel_rfl)) (by decide) (fun K hK => ?_)
                  first | refine goes_ Try.func20 (by kernel_rfl) rfl #[.slice Ao460 t323.length co460, .slice Ao461 t326.length co461] (by rfl) rfl rfl (by (try simp only [List.map_toArray, List.map_cons, List.map_nil]); first | done | rfl | (simp only [List.length_drop, List.length_take]; rfl)) ?_ | refine goesT_ Try.func20 (by kernel_rfl) rfl #[.slice Ao460 t323.length co460, .slice Ao461 t326.length co461] (by rfl) rfl rfl (by rfl) (by (try simp only [List.map_toArray, List.map_cons, List.map_nil]); first | done | rfl | (simp only [List.length_drop, List.length_take]; rfl)) ?_
                  with_reducible refine (ropewayref05_Same.calls kj390 _ _ t323 _ _ t326 t329 _ ?side1 ?side2 ?side3 ?side4 A452.out).mono ?_
                  (case side1 => exact (Kd.R_reads' HO325.out).2.2)
                  (case side2 => exact (Kd.R_reads' HO325.out).2.1)
                  (case side3 => exact (Kd.R_reads' HO328.out).2.2)
                  (case side4 => exact (Kd.R_reads' HO328.out).2.1)
                  rintro e w' ⟨rfl, ⟨nd, rfl⟩⟩
                  refine ⟨_, rfl, ?_⟩
                  refine hK.out _ _ (r5_ BK267.out) (fun hHeld => ?_)
                  clear hK K
                  refine norm_ (a' := ?_) ?_ ?_
                  rotate_left
                  · show Act.put _ (some 174) _ = _
                    simp only [Act.put, zS, zZ, zC, i64_w, i32_w]
                    rfl
                  refine put_ HT_ 28 175 (dm_ 31 536870911) ?_
                  refine put_ HT_ 29 176 (dm_ 31 1073741823) ?_
                  refine put_ HT_ 30 6 (dm_ 31 2147483647) ?_
                  refine done_ (done_of HT_.out (by kernel_rfl)) ?_
                  try go_wp2
                  go_ret
                  exact ⟨by first | rfl | (simp [errW_none, errW_some] <;> rfl) | (simp [*, errW_none, errW_some] <;> rfl), bel_⟩
                 rw [if_neg c446] at H
                 have c446b0 : ((x24_390.length : Int) == 0) = false := beq_eq_false_iff_ne.mpr c446
                 have c446b1 : ((x24_390.length : Int) != 0) = true := bne_iff_ne.mpr c446
                 have c446b2 : ¬ (x24_390 = []) := fun h_ => c446 (by rw [h_]; rfl)
                 by_cases c462 : 0 < (x24_390.length : Int)
                 rotate_left
                 · rw [if_neg c462] at H
                   exact absurd H (by simp)
                 as_aux_lemma =>
                  rw [if_pos c462] at H
                  have c462b0 : decide (0 < (x24_390.length : Int)) = true := decide_eq_true c462
                  have c462b1 : decide (0 < x24_390.length) = true := decide_eq_true (by omega)
                  clear c462
                  by_cases c463 : ((rd_T34 x24_390 0).f0) = 77
                  · rw [if_pos c463] at H
                    have c463b0 : (((rd_T34 x24_390 0).f0) == 77) = true := beq_iff_eq.mpr c463
                    have c463b1 : (((rd_T34 x24_390 0).f0) != 77) = false := bne_eq_false_iff_eq.mpr c463
                    clear c463
                    exact absurd (Option.some.inj H) (by rw [hr1_.out]; decide)
                  rw [if_neg c463] at H
                  have c463b0 : (((rd_T34 x24_390 0).f0) == 77) = false := beq_eq_false_iff_ne.mpr c463
                  have c463b1 : (((rd_T34 x24_390 0).f0) != 77) = true := bne_iff_ne.mpr c463
                  by_cases c464 : x21_329 = true
                  ·
                   subst c464
                   have H1 : (some true) = some r := by rw [if_pos rfl] at H; exact H
                   clear H
                   have H := H1
                   clear H1
                   obtain rfl := Option.some.inj H
                   try go_wp2
                   replace HO_24 := zM (Kd.R_drew HO_24.out)
                   replace HOa := zM (Kd.R_drew HOa.out)
                   replace HOb := zM (Kd.R_drew HOb.out)
                   replace HOc := zM (Kd.V_drew HOc.out)
                   replace BK258 := zM (zD BK258.out)
                   replace BK261 := zM (zD BK261.out)
                   replace BK262 := zM (zD BK262.out)
                   replace BK266 := zM (zD BK266.out)
                   replace BK267 := zM (zD BK267.out)
                   replace HB := zM (below_drew1 HB.out)
                   obtain ⟨Ao466, co466, eo466⟩ := Kd.R_slice HO_24.out
                   (first | subst eo466 | (injection eo466 with f1_ f2_ f3_; have f4_ := f1_.symm; have f5_ := f3_.symm; clear f1_ f2_ f3_; subst f4_; subst f5_))
                   have p330 : 0 ≤ (0 : Int) := (by omega)
                   have q330 : 0 < (x24_390.length : Int) := of_decide_eq_true (by first | (with_reducible assumption) | assumption)
                   obtain ⟨ad330, e330, hx330_0, hx330_1, hx330_2⟩ := at_T34 (Kd.R_reads' HO_24.out).2.2 0 p330 q330
                   cases e330
                   have qi330 : (0 < x24_390.length) = True := eq_true (by omega)
                   (try rw [show ((0 : Int)).toNat = 0 from rfl] at hx330_0)
                   (try rw [show 0 * 3 = 0 from rfl] at hx330_0)
                   (try rw [Addr.add_zero'] at hx330_0)
                   (try rw [show ((0 : Int)).toNat = 0 from rfl] at hx330_1)
                   (try rw [show 0 * 3 = 0 from rfl] at hx330_1)
                   (try rw [Addr.add_zero'] at hx330_1)
                   (try rw [show ((0 : Int)).toNat = 0 from rfl] at hx330_2)
                   (try rw [show 0 * 3 = 0 from rfl] at hx330_2)
                   (try rw [Addr.add_zero'] at hx330_2)
                   replace p330 := eq_true p330
                   replace q330 := eq_true q330
                   refine start_ (n := 31) (S := fun w' => w'.cell? ad330 = some (.int .i64 ((rd_T34 x24_390 0).f0)) ∧ w'.cell? ⟨ad330.block, ad330.off + 1, none⟩ = some (.int .i64 ((rd_T34 x24_390 0).f1.f0)) ∧ w'.cell? ⟨ad330.block, ad330.off + 2, none⟩ = some (.int .i64 ((rd_T34 x24_390 0).f1.f1))) (ds := []) #[F_, F_, F_, F_, F_, F_, F_, F_, F_, F_, F_, F_, F_, F_, F_, F_, F_, F_, F_, F_, F_, F_, F_, F_, F_, F_, F_, F_, F_, F_, F_] (by kernel_rfl) rfl rfl ⟨hx330_0, hx330_1, hx330_2⟩ (fun hHeld => ?_); refine with_tabW ropewaylaw15_SnapRuns_t.tab34 ropewaylaw15_SnapRuns_t.bits34 (fun HT_ HW_ => ?_)
                   generalize wc.drew = w465 at HO_24 HOa HOb HOc BK258 BK261 BK262 BK266 BK267 HB hx330_0 hx330_1 hx330_2 hHeld ⊢
                   refine put_ HT_ 0 147 (dm_ 31 1) ?_
                   refine put_ HT_ 1 148 (dm_ 31 3) ?_
                   refine put_ HT_ 2 149 (dm_ 31 7) ?_
                   refine put_ HT_ 3 150 (dm_ 31 15) ?_
                   refine put_ HT_ 4 151 (dm_ 31 31) ?_
                   refine put_ HT_ 5 152 (dm_ 31 63) ?_
                   refine put_ HT_ 6 153 (dm_ 31 127) ?_
                   refine put_ HT_ 7 154 (dm_ 31 255) ?_
                   refine put_ HT_ 8 155 (dm_ 31 511) ?_
                   refine put_ HT_ 9 156 (dm_ 31 1023) ?_
                   refine put_ HT_ 10 157 (dm_ 31 2047) ?_
                   refine put_ HT_ 11 158 (dm_ 31 4095) ?_
                   refine put_ HT_ 12 159 (dm_ 31 8191) ?_
                   refine put_ HT_ 13 160 (dm_ 31 16383) ?_
                   refine put_ HT_ 14 161 (dm_ 31 32767) ?_
                   refine put_ HT_ 15 162 (dm_ 31 65535) ?_
                   refine tkt_ HT_ HW_ hHeld 16 163 (dm_ 31 131071) ?_
                   refine put_ HT_ 17 164 (dm_ 31 262143) ?_
                   refine put_ HT_ 18 165 (dm_ 31 524287) ?_
                   refine put_ HT_ 19 166 (dm_ 31 1048575) ?_
                   refine put_ HT_ 20 167 (dm_ 31 2097151) ?_
                   refine put_ HT_ 21 168 (dm_ 31 4194303) ?_
                   refine put_ HT_ 22 169 (dm_ 31 8388607) ?_
                   refine pzt_ HT_ 23 170 (dm_ 31 16777215) ?_
                   refine pzt_ HT_ 24 171 (dm_ 31 33554431) ?_
                   refine pzt_ HT_ 25 172 (dm_ 31 67108863) ?_
                   refine pzt_ HT_ 26 173 (dm_ 31 134217727) ?_
                   refine pzt_ HT_ 27 174 (dm_ 31 268435455) ?_
                   refine put_ HT_ 28 175 (dm_ 31 536870911) ?_
                   refine put_ HT_ 29 176 (dm_ 31 1073741823) ?_
                   refine put_ HT_ 30 6 (dm_ 31 2147483647) ?_
                   refine done_ (done_of HT_.out (by kernel_rfl)) ?_
                   try go_wp2
                   go_ret
                   exact ⟨by first | rfl | (simp [errW_none, errW_some] <;> rfl) | (simp [*, errW_none, errW_some] <;> rfl), bel_⟩
                  replace c464 := Bool.eq_false_iff.mpr c464
                  subst c464
                  have H1 : ((snap_Snap_Found.f kj390 X2 Xe X4).bind fun t331 => ((ropewayref15_Found.f kj390 X5 X6 X7 X8 X9).bind fun t334 => ((ropewayref05_Same.f kj390 t331 t334).bind fun t337 => (some t337)))) = some r := by rw [if_neg (show ¬ (false = true) by decide)] at H; exact H
                  clear H
                  have H := H1
                  clear H1
                  replace H := Option.bind_eq_some_iff.mp H
                  obtain ⟨t331, A4670, H⟩ := H
                  replace H : ((ropewayref15_Found.f kj390 X5 X6 X7 X8 X9).bind fun t334 => ((ropewayref05_Same.f kj390 t331 t334).bind fun t337 => (some t337))) = some r := H
                  have A467 := zM A4670
                  clear A4670
                  replace H := Option.bind_eq_some_iff.mp H
                  obtain ⟨t334, A4680, H⟩ := H
                  replace H : ((ropewayref05_Same.f kj390 t331 t334).bind fun t337 => (some t337)) = some r := H
                  have A468 := zM A4680
                  clear A4680
                  replace H := Option.bind_eq_some_iff.mp H
                  obtain ⟨t337, A4690, H⟩ := H
                  replace H : (some t337) = some r := H
                  have A469 := zM A4690
                  clear A4690
                  obtain rfl := Option.some.inj H
                  try go_wp2
                  replace HO_24 := zM (Kd.R_drew HO_24.out)
                  replace HOa := zM (Kd.R_drew HOa.out)
                  replace HOb := zM (Kd.R_drew HOb.out)
                  replace HOc := zM (Kd.V_drew HOc.out)
                  replace BK258 := zM (zD BK258.out)
                  replace BK261 := zM (zD BK261.out)
                  replace BK262 := zM (zD BK262.out)
                  replace BK266 := zM (zD BK266.out)
                  replace BK267 := zM (zD BK267.out)
                  replace HB := zM (below_drew1 HB.out)
                  obtain ⟨Ao471, co471, eo471⟩ := Kd.R_slice HO_24.out
                  (first | subst eo471 | (injection eo471 with f1_ f2_ f3_; have f4_ := f1_.symm; have f5_ := f3_.symm; clear f1_ f2_ f3_; subst f4_; subst f5_))
                  have p330 : 0 ≤ (0 : Int) := (by omega)
                  have q330 : 0 < (x24_390.length : Int) := of_decide_eq_true (by first | (with_reducible assumption) | assumption)
                  obtain ⟨ad330, e330, hx330_0, hx330_1, hx330_2⟩ := at_T34 (Kd.R_reads' HO_24.out).2.2 0 p330 q330
                  cases e330
                  have qi330 : (0 < x24_390.length) = True := eq_true (by omega)
                  (try rw [show ((0 : Int)).toNat = 0 from rfl] at hx330_0)
                  (try rw [show 0 * 3 = 0 from rfl] at hx330_0)
                  (try rw [Addr.add_zero'] at hx330_0)
                  (try rw [show ((0 : Int)).toNat = 0 from rfl] at hx330_1)
                  (try rw [show 0 * 3 = 0 from rfl] at hx330_1)
                  (try rw [Addr.add_zero'] at hx330_1)
                  (try rw [show ((0 : Int)).toNat = 0 from rfl] at hx330_2)
                  (try rw [show 0 * 3 = 0 from rfl] at hx330_2)
                  (try rw [Addr.add_zero'] at hx330_2)
                  replace p330 := eq_true p330
                  replace q330 := eq_true q330
                  obtain ⟨Ao472, co472, eo472⟩ := Kd.R_slice HOa.out
                  (first | subst eo472 | (injection eo472 with f1_ f2_ f3_; have f4_ := f1_.symm; have f5_ := f3_.symm; clear f1_ f2_ f3_; subst f4_; subst f5_))
                  obtain ⟨Ao473, co473, eo473⟩ := Kd.R_slice HOb.out
                  (first | subst eo473 | (injection eo473 with f1_ f2_ f3_; have f4_ := f1_.symm; have f5_ := f3_.symm; clear f1_ f2_ f3_; subst f4_; subst f5_))
                  refine start_ (n := 31) (S := fun w' => ca5_ w' gb267 (.bool X5) (.int .i64 X6) (.int .i64 X7) (.int .i64 X8) (u268004) (w'.cell? ad330 = some (.int .i64 ((rd_T34 x24_390 0).f0)) ∧ w'.cell? ⟨ad330.block, ad330.off + 1, none⟩ = some (.int .i64 ((rd_T34 x24_390 0).f1.f0)) ∧ w'.cell? ⟨ad330.block, ad330.off + 2, none⟩ = some (.int .i64 ((rd_T34 x24_390 0).f1.f1)))) (ds := []) #[F_, F_, F_, F_, F_, F_, F_, F_, F_, F_, F_, F_, F_, F_, F_, F_, F_, F_, F_, F_, F_, F_, F_, F_, F_, F_, F_, F_, F_, F_, F_] (by kernel_rfl) rfl rfl (rc5_ BK267.out ⟨hx330_0, hx330_1, hx330_2⟩) (fun hHeld => ?_); refine with_tabW ropewaylaw15_SnapRuns_t.tab34 ropewaylaw15_SnapRuns_t.bits34 (fun HT_ HW_ => ?_)
                  generalize wc.drew = w470 at HO_24 HOa HOb HOc BK258 BK261 BK262 BK266 BK267 HB hx330_0 hx330_1 hx330_2 hHeld ⊢
                  refine put_ HT_ 0 147 (dm_ 31 1) ?_
                  refine put_ HT_ 1 148 (dm_ 31 3) ?_
                  refine put_ HT_ 2 149 (dm_ 31 7) ?_
                  refine put_ HT_ 3 150 (dm_ 31 15) ?_
                  refine put_ HT_ 4 151 (dm_ 31 31) ?_
                  refine put_ HT_ 5 152 (dm_ 31 63) ?_
                  refine put_ HT_ 6 153 (dm_ 31 127) ?_
                  refine put_ HT_ 7 154 (dm_ 31 255) ?_
                  refine put_ HT_ 8 155 (dm_ 31 511) ?_
                  refine put_ HT_ 9 156 (dm_ 31 1023) ?_
                  refine put_ HT_ 10 157 (dm_ 31 2047) ?_
                  refine put_ HT_ 11 158 (dm_ 31 4095) ?_
                  refine put_ HT_ 12 159 (dm_ 31 8191) ?_
                  refine put_ HT_ 13 160 (dm_ 31 16383) ?_
                  refine put_ HT_ 14 161 (dm_ 31 32767) ?_
                  refine put_ HT_ 15 162 (dm_ 31 65535) ?_
                  refine tkt_ HT_ HW_ hHeld 16 163 (dm_ 31 131071) ?_
                  refine put_ HT_ 17 164 (dm_ 31 262143) ?_
                  refine put_ HT_ 18 165 (dm_ 31 524287) ?_
                  refine put_ HT_ 19 166 (dm_ 31 1048575) ?_
                  refine put_ HT_ 20 167 (dm_ 31 2097151) ?_
                  refine put_ HT_ 21 168 (dm_ 31 4194303) ?_
                  refine put_ HT_ 22 169 (dm_ 31 8388607) ?_
                  refine put_ HT_ 23 170 (dm_ 31 16777215) ?_
                  refine tkt_ HT_ HW_ hHeld 25 172 (dm_ 31 50331647) ?_
                  refine one_ (i := 24) (N := some 171) (dm_ 31 67108863) rfl rfl (one_of HT_.out (by kernel_rfl)) (by decide) (fun K hK => ?_)
                  first | refine goes_ Try.func12 (by kernel_rfl) rfl #[.pointer (some ⟨gb266, 0, none⟩)] (by rfl) rfl rfl (by (try simp only [List.map_toArray, List.map_cons, List.map_nil]); first | done | rfl | (simp only [List.length_drop, List.length_take]; rfl)) ?_ | refine goesT_ Try.func12 (by kernel_rfl) rfl #[.pointer (some ⟨gb266, 0, none⟩)] (by rfl) rfl rfl (by rfl) (by (try simp only [List.map_toArray, List.map_cons, List.map_nil]); first | done | rfl | (simp only [List.length_drop, List.length_take]; rfl)) ?_
                  with_reducible refine (snap_Snap_Found.calls kj390 gb266 Ao472 co472 X2 Xe Ao473 co473 X4 t331 _ ?side1 ?side2 ?side3 ?side4 ?side5 A467.out).mono ?_
                  (case side1 => exact (Kd.R_reads' HOa.out).2.2)
                  (case side2 => exact (Kd.R_reads' HOa.out).2.1)
                  (case side3 => exact (Kd.R_reads' HOb.out).2.2)
                  (case side4 => exact (Kd.R_reads' HOb.out).2.1)
                  (case side5 => exact blf_)
                  rintro e w474 ⟨v332, rfl, ho0, hb⟩
                  have HS5_ := (hb.cell (World.block_lt_of_cell? _ _ (hHeld.2.2.2.2.2.1))).trans (hHeld.2.2.2.2.2.1)
                  have HS6_ := (hb.cell (World.block_lt_of_cell? _ _ (hHeld.2.2.2.2.2.2.1))).trans (hHeld.2.2.2.2.2.2.1)
                  have HS7_ := (hb.cell (World.block_lt_of_cell? _ _ (hHeld.2.2.2.2.2.2.2))).trans (hHeld.2.2.2.2.2.2.2)
                  refine ⟨_, rfl, ?_⟩
                  replace HO_24 := zM (Kd.R_below (rl_ HO_24) hb)
                  replace HOa := zM (Kd.R_below (rl_ HOa) hb)
                  replace HOb := zM (Kd.R_below (rl_ HOb) hb)
                  replace HOc := zM (Kd.V_elder' (rv_ HOc) (Kd.R_base ho0) hb)
                  have HO333 := zM (Kd.R_lower (Kd.R_newB ho0 (g := gb262) (o := .cells #[.int .i64 a1_1, .int .i64 a1_2] 26 (0, 0)) blk_) (below_size bel_))
                  replace BK258 := zM (bb_ BK258 hb)
                  replace BK261 := zM (bb_ BK261 hb)
                  replace BK262 := zM (bb_ BK262 hb)
                  replace BK266 := zM (bb_ BK266 hb)
                  replace BK267 := zM (bb_ BK267 hb)
                  replace HB := zM (zB bel_ hb)
                  (try clear hb)
                  (try clear hb2)
                  (try clear hk)
                  (try clear hi)
                  (try clear ho0)
                  obtain ⟨Ao475, co475, eo475⟩ := Kd.V_slice HOc.out
                  (first | subst eo475 | (injection eo475 with f1_ f2_ f3_; have f4_ := f1_.symm; have f5_ := f3_.symm; clear f1_ f2_ f3_; subst f4_; subst f5_))
                  refine hK.out _ _ (rc5_ BK267.out ⟨HS5_, HS6_, HS7_⟩) (fun hHeld => ?_)
                  clear hK K
                  refine norm_ (a' := ?_) ?_ ?_
                  rotate_left
                  · show Act.put _ (some 171) _ = _
                    simp only [Act.put, zS, zZ, zC, i64_w, i32_w]
                    rfl
                  refine one_ (i := 26) (N := some 173) (dm_ 31 134217727) rfl rfl (one_of HT_.out (by kernel_rfl)) (by decide) (fun K hK => ?_)
                  first | refine goes_ Try.func21 (by kernel_rfl) rfl #[.agg #[.bool X5, .int .i64 X6, .int .i64 X7, .int .i64 X8, .slice Ao475 X9.length co475]] (by rfl) rfl rfl (by (try simp only [List.map_toArray, List.map_cons, List.map_nil]); first | done | rfl | (simp only [List.length_drop, List.length_take]; rfl)) ?_ | refine goesT_ Try.func21 (by kernel_rfl) rfl #[.agg #[.bool X5, .int .i64 X6, .int .i64 X7, .int .i64 X8, .slice Ao475 X9.length co475]] (by rfl) rfl rfl (by rfl) (by (try simp only [List.map_toArray, List.map_cons, List.map_nil]); first | done | rfl | (simp only [List.length_drop, List.length_take]; rfl)) ?_
                  with_reducible refine (ropewayref15_Found.calls kj390 X5 X6 X7 X8 _ _ X9 t334 _ ?side1 ?side2 A468.out).mono ?_
                  (case side1 => repeat (first | exact (Kd.V_reads' HOc.out).2.2 | (with_reducible refine Kd.C_alloc ?_ _) | (with_reducible refine Kd.C_drewN ?_ _) | (with_reducible refine Kd.C_drew ?_)))
                  (case side2 => exact (Kd.V_reads' HOc.out).2.1)
                  rintro e w476 ⟨v335, rfl, ho0, hb⟩
                  have HS5_ := (hb.cell (World.block_lt_of_cell? _ _ (hHeld.2.2.2.2.2.1))).trans (hHeld.2.2.2.2.2.1)
                  have HS6_ := (hb.cell (World.block_lt_of_cell? _ _ (hHeld.2.2.2.2.2.2.1))).trans (hHeld.2.2.2.2.2.2.1)
                  have HS7_ := (hb.cell (World.block_lt_of_cell? _ _ (hHeld.2.2.2.2.2.2.2))).trans (hHeld.2.2.2.2.2.2.2)
                  refine ⟨_, rfl, ?_⟩
                  replace HO_24 := zM (Kd.R_below (rl_ HO_24) hb)
                  replace HOa := zM (Kd.R_below (rl_ HOa) hb)
                  replace HOb := zM (Kd.R_below (rl_ HOb) hb)
                  replace HOc := zM (Kd.V_elder' (rv_ HOc) (Kd.R_base ho0) hb)
                  have HO336 := zM (Kd.R_lower (Kd.R_newB (Kd.R_new' ho0 (Kd.R_lt (rl_ HO333))) (g := gb262) (o := .cells #[.int .i64 a1_1, .int .i64 a1_2] 26 (0, 0)) blk_) (below_size bel_))
                  replace HO333 := zM (Kd.R_elder' (rl_ HO333) (Kd.R_base ho0) hb)
                  replace BK258 := zM (bb_ BK258 hb)
                  replace BK261 := zM (bb_ BK261 hb)
                  replace BK262 := zM (bb_ BK262 hb)
                  replace BK266 := zM (bb_ BK266 hb)
                  replace BK267 := zM (bb_ BK267 hb)
                  replace HB := zM (zB bel_ hb)
                  (try clear hb)
                  (try clear hb2)
                  (try clear hk)
                  (try clear hi)
                  (try clear ho0)
                  obtain ⟨Ao477, co477, eo477⟩ := Kd.R_slice HO333.out
                  (first | subst eo477 | (injection eo477 with f1_ f2_ f3_; have f4_ := f1_.symm; have f5_ := f3_.symm; clear f1_ f2_ f3_; subst f4_; subst f5_))
                  obtain ⟨Ao478, co478, eo478⟩ := Kd.R_slice HO336.out
                  (first | subst eo478 | (injection eo478 with f1_ f2_ f3_; have f4_ := f1_.symm; have f5_ := f3_.symm; clear f1_ f2_ f3_; subst f4_; subst f5_))
                  refine hK.out _ _ (rc5_ BK267.out ⟨HS5_, HS6_, HS7_⟩) (fun hHeld => ?_)
                  clear hK K
                  refine norm_ (a' := ?_) ?_ ?_
                  rotate_left
                  · show Act.put _ (some 173) _ = _
                    simp only [Act.put, zS, zZ, zC, i64_w, i32_w]
                    rfl
                  refine one_ (i := 27) (N := some 174) (dm_ 31 268435455) rfl rfl (one_of HT_.out (by kernel_rfl)) (by decide) (fun K hK => ?_)
                  first | refine goes_ Try.func20 (by kernel_rfl) rfl #[.slice Ao477 t331.length co477, .slice Ao478 t334.length co478] (by rfl) rfl rfl (by (try simp only [List.map_toArray, List.map_cons, List.map_nil]); first | done | rfl | (simp only [List.length_drop, List.length_take]; rfl)) ?_ | refine goesT_ Try.func20 (by kernel_rfl) rfl #[.slice Ao477 t331.length co477, .slice Ao478 t334.length co478] (by rfl) rfl rfl (by rfl) (by (try simp only [List.map_toArray, List.map_cons, List.map_nil]); first | done | rfl | (simp only [List.length_drop, List.length_take]; rfl)) ?_
                  with_reducible refine (ropewayref05_Same.calls kj390 _ _ t331 _ _ t334 t337 _ ?side1 ?side2 ?side3 ?side4 A469.out).mono ?_
                  (case side1 => exact (Kd.R_reads' HO333.out).2.2)
                  (case side2 => exact (Kd.R_reads' HO333.out).2.1)
                  (case side3 => exact (Kd.R_reads' HO336.out).2.2)
                  (case side4 => exact (Kd.R_reads' HO336.out).2.1)
                  rintro e w' ⟨rfl, ⟨nd, rfl⟩⟩
                  refine ⟨_, rfl, ?_⟩
                  refine hK.out _ _ (rc5_ BK267.out ⟨hHeld.2.2.2.2.2.1, hHeld.2.2.2.2.2.2.1, hHeld.2.2.2.2.2.2.2⟩) (fun hHeld => ?_)
                  clear hK K
                  refine norm_ (a' := ?_) ?_ ?_
                  rotate_left
                  · show Act.put _ (some 174) _ = _
                    simp only [Act.put, zS, zZ, zC, i64_w, i32_w]
                    rfl
                  refine put_ HT_ 28 175 (dm_ 31 536870911) ?_
                  refine put_ HT_ 29 176 (dm_ 31 1073741823) ?_
                  refine put_ HT_ 30 6 (dm_ 31 2147483647) ?_
                  refine done_ (done_of HT_.out (by kernel_rfl)) ?_
                  try go_wp2
                  go_ret
                  exact ⟨by first | rfl | (simp [errW_none, errW_some] <;> rfl) | (simp [*, errW_none, errW_some] <;> rfl), bel_⟩
       as_aux_lemma =>
        rw [if_pos c58] at H
        have c58b0 : decide (x65_2 < (l2.length : Int)) = true := decide_eq_true c58
        clear c58
        by_cases c59 : 0 ≤ x65_2
        rotate_left
        · rw [if_neg c59] at H
          exact absurd H (by simp)
        as_aux_lemma =>
         rw [if_pos c59] at H
         have c59b0 : decide (0 ≤ x65_2) = true := decide_eq_true c59
         clear c59
         by_cases c60 : x65_2 < (l2.length : Int)
         rotate_left
         · rw [if_neg c60] at H
           exact absurd H (by simp)
         as_aux_lemma =>
          rw [if_pos c60] at H
          have c60b0 : decide (x65_2 < (l2.length : Int)) = true := decide_eq_true c60
          clear c60
          replace H := Option.bind_eq_some_iff.mp H
          obtain ⟨t269, A610, H⟩ := H
          replace H : (if t269 = 0 then ((some (([] : List (S34)) : List (S34))).bind fun y270 => (if y270.length + (rd_L3 l2 x65_2).length < 5864062014805 then ((some (y270 ++ (rd_L3 l2 x65_2) : List (S34))).bind fun y273 => (if X3 = 0 then ((api_Cell.f y273).bind fun t276 => (if (y273.length : Int) = 0 then ((snap_Snap_update.f X2 (wrap64 (X3 + 1)) t276).bind fun t279 => (if t279 = true then (ropewaylaw15_SnapRuns_t.j2 k2 (rd_L3 l2 x65_2) y273 l2 (l2.length : Int) x65_2 X2 (wrap64 (X3 + 1)) t276 X5 X6 X7 X8 X9) else (ropewaylaw15_SnapRuns_t.j2 k2 (rd_L3 l2 x65_2) y273 l2 (l2.length : Int) x65_2 X2 4 t276 X5 X6 X7 X8 X9))) else (ropewaylaw15_SnapRuns_t.j2 k2 (rd_L3 l2 x65_2) y273 l2 (l2.length : Int) x65_2 X2 (wrap64 (X3 + 1)) t276 X5 X6 X7 X8 X9))) else (if X3 = 2 then ((api_Cell.f y273).bind fun t280 => (if (y273.length : Int) = 0 then ((snap_Snap_update.f X2 (wrap64 (X3 + 1)) t280).bind fun t283 => (if t283 = true then (ropewaylaw15_SnapRuns_t.j2 k2 (rd_L3 l2 x65_2) y273 l2 (l2.length : Int) x65_2 X2 (wrap64 (X3 + 1)) t280 X5 X6 X7 X8 X9) else (ropewaylaw15_SnapRuns_t.j2 k2 (rd_L3 l2 x65_2) y273 l2 (l2.length : Int) x65_2 X2 4 t280 X5 X6 X7 X8 X9))) else (ropewaylaw15_SnapRuns_t.j2 k2 (rd_L3 l2 x65_2) y273 l2 (l2.length : Int) x65_2 X2 (wrap64 (X3 + 1)) t280 X5 X6 X7 X8 X9))) else (if X3 = 1 then ((snap_Snap_update.f X2 2 X4).bind fun t284 => (if t284 = true then (ropewaylaw15_SnapRuns_t.j2 k2 (rd_L3 l2 x65_2) y273 l2 (l2.length : Int) x65_2 X2 4 X4 X5 X6 X7 X8 X9) else (ropewaylaw15_SnapRuns_t.j2 k2 (rd_L3 l2 x65_2) y273 l2 (l2.length : Int) x65_2 X2 2 X4 X5 X6 X7 X8 X9))) else (if X3 = 3 then (ropewaylaw15_SnapRuns_t.j2 k2 (rd_L3 l2 x65_2) y273 l2 (l2.length : Int) x65_2 X2 4 X4 X5 X6 X7 X8 X9) else (ropewaylaw15_SnapRuns_t.j2 k2 (rd_L3 l2 x65_2) y273 l2 (l2.length : Int) x65_2 X2 X3 X4 X5 X6 X7 X8 X9)))))) else (none))) else (some true)) = some r := H
          have A61 := zM A610
          clear A610
          by_cases c62 : t269 = 0
          rotate_left
          ·
           rw [if_neg c62] at H
           have c62b0 : (t269 == 0) = false := beq_eq_false_iff_ne.mpr c62
           have c62b1 : (t269 != 0) = true := bne_iff_ne.mpr c62
           have p268 : 0 ≤ (x65_2 : Int) := of_decide_eq_true (by first | (with_reducible assumption) | assumption)
           have q268 : x65_2 < (l2.length : Int) := of_decide_eq_true (by first | (with_reducible assumption) | assumption)
           obtain ⟨ad268, A268_0, c268_0, e268, hx268_0, hl268_0, hi268_0⟩ := at_L3 HR2.out x65_2 p268 q268
           cases e268
           replace hx268_0 := (HB.out.cell (World.block_lt_of_cell? w _ hx268_0)).trans hx268_0
           have HR268_0 := zM hi268_0
           have HC268_0 := zM hl268_0
           clear hi268_0 hl268_0
           replace p268 := eq_true p268
           replace q268 := eq_true q268
           have tk329 : True := trivial
           go_upto_region 13 with (first | ((with_reducible refine gate_callee (f := 14) rfl ?_); clear tk329; refine goL_ (some 70) Try.func14 #[.slice A268_0 (rd_L3 l2 x65_2).length c268_0] ?_; (with_reducible refine (ropewayref10_Check.calls k2 _ _ (rd_L3 l2 x65_2) t269 _ ?side1 ?side2 A61.out).mono ?_); (case side1 => repeat (first | exact (Kd.C_below HR268_0.out HB.out) | (with_reducible refine Kd.C_alloc ?_ _) | (with_reducible refine Kd.C_drewN ?_ _) | (with_reducible refine Kd.C_drew ?_))); (case side2 => exact HC268_0.out); rintro e w328 ⟨rfl, hb⟩; refine ⟨_, rfl, ?_⟩; replace HOa := zM (Kd.R_below (rl_ HOa) hb); replace HOb := zM (Kd.R_below (rl_ HOb) hb); replace HOc := zM (Kd.V_below (rv_ HOc) hb); replace BK258 := zM (bb_ BK258 hb); replace BK261 := zM (bb_ BK261 hb); replace BK262 := zM (bb_ BK262 hb); replace BK266 := zM (bb_ BK266 hb); replace BK267 := zM (bb_ BK267 hb); replace HB := zM (zB bel_ hb); (try clear hb); (try clear hi)))
           obtain rfl := Option.some.inj H
           go_wp2
           go_ret
           exact ⟨by first | rfl | (simp [errW_none, errW_some] <;> rfl) | (simp [*, errW_none, errW_some] <;> rfl), bel_⟩
          as_aux_lemma =>
           rw [if_pos c62] at H
           have c62b0 : (t269 == 0) = true := beq_iff_eq.mpr c62
           have c62b1 : (t269 != 0) = false := bne_eq_false_iff_eq.mpr c62
           clear c62
           have p268 : 0 ≤ (x65_2 : Int) := of_decide_eq_true (by first | (with_reducible assumption) | assumption)
           have q268 : x65_2 < (l2.length : Int) := of_decide_eq_true (by first | (with_reducible assumption) | assumption)
           obtain ⟨ad268, A268_0, c268_0, e268, hx268_0, hl268_0, hi268_0⟩ := at_L3 HR2.out x65_2 p268 q268
           cases e268
           replace hx268_0 := (HB.out.cell (World.block_lt_of_cell? w _ hx268_0)).trans hx268_0
           have HR268_0 := zM hi268_0
           have HC268_0 := zM hl268_0
           clear hi268_0 hl268_0
           replace p268 := eq_true p268
           replace q268 := eq_true q268
           have tk64 : True := trivial
           go_upto_region 14 with (first | ((with_reducible refine gate_callee (f := 14) rfl ?_); clear tk64; refine goL_ (some 70) Try.func14 #[.slice A268_0 (rd_L3 l2 x65_2).length c268_0] ?_; (with_reducible refine (ropewayref10_Check.calls k2 _ _ (rd_L3 l2 x65_2) t269 _ ?side1 ?side2 A61.out).mono ?_); (case side1 => repeat (first | exact (Kd.C_below HR268_0.out HB.out) | (with_reducible refine Kd.C_alloc ?_ _) | (with_reducible refine Kd.C_drewN ?_ _) | (with_reducible refine Kd.C_drew ?_))); (case side2 => exact HC268_0.out); rintro e w63 ⟨rfl, hb⟩; refine ⟨_, rfl, ?_⟩; replace HOa := zM (Kd.R_below (rl_ HOa) hb); replace HOb := zM (Kd.R_below (rl_ HOb) hb); replace HOc := zM (Kd.V_below (rv_ HOc) hb); replace BK258 := zM (bb_ BK258 hb); replace BK261 := zM (bb_ BK261 hb); replace BK262 := zM (bb_ BK262 hb); replace BK266 := zM (bb_ BK266 hb); replace BK267 := zM (bb_ BK267 hb); replace HB := zM (zB bel_ hb); (try clear hb); (try clear hi)))
           obtain ⟨y270, hy270⟩ : ∃ y_ : List (S34), y_ = (([] : List (S34))) := ⟨_, rfl⟩
           replace H : (if y270.length + (rd_L3 l2 x65_2).length < 5864062014805 then ((some (y270 ++ (rd_L3 l2 x65_2) : List (S34))).bind fun y273 => (if X3 = 0 then ((api_Cell.f y273).bind fun t276 => (if (y273.length : Int) = 0 then ((snap_Snap_update.f X2 (wrap64 (X3 + 1)) t276).bind fun t279 => (if t279 = true then (ropewaylaw15_SnapRuns_t.j2 k2 (rd_L3 l2 x65_2) y273 l2 (l2.length : Int) x65_2 X2 (wrap64 (X3 + 1)) t276 X5 X6 X7 X8 X9) else (ropewaylaw15_SnapRuns_t.j2 k2 (rd_L3 l2 x65_2) y273 l2 (l2.length : Int) x65_2 X2 4 t276 X5 X6 X7 X8 X9))) else (ropewaylaw15_SnapRuns_t.j2 k2 (rd_L3 l2 x65_2) y273 l2 (l2.length : Int) x65_2 X2 (wrap64 (X3 + 1)) t276 X5 X6 X7 X8 X9))) else (if X3 = 2 then ((api_Cell.f y273).bind fun t280 => (if (y273.length : Int) = 0 then ((snap_Snap_update.f X2 (wrap64 (X3 + 1)) t280).bind fun t283 => (if t283 = true then (ropewaylaw15_SnapRuns_t.j2 k2 (rd_L3 l2 x65_2) y273 l2 (l2.length : Int) x65_2 X2 (wrap64 (X3 + 1)) t280 X5 X6 X7 X8 X9) else (ropewaylaw15_SnapRuns_t.j2 k2 (rd_L3 l2 x65_2) y273 l2 (l2.length : Int) x65_2 X2 4 t280 X5 X6 X7 X8 X9))) else (ropewaylaw15_SnapRuns_t.j2 k2 (rd_L3 l2 x65_2) y273 l2 (l2.length : Int) x65_2 X2 (wrap64 (X3 + 1)) t280 X5 X6 X7 X8 X9))) else (if X3 = 1 then ((snap_Snap_update.f X2 2 X4).bind fun t284 => (if t284 = true then (ropewaylaw15_SnapRuns_t.j2 k2 (rd_L3 l2 x65_2) y273 l2 (l2.length : Int) x65_2 X2 4 X4 X5 X6 X7 X8 X9) else (ropewaylaw15_SnapRuns_t.j2 k2 (rd_L3 l2 x65_2) y273 l2 (l2.length : Int) x65_2 X2 2 X4 X5 X6 X7 X8 X9))) else (if X3 = 3 then (ropewaylaw15_SnapRuns_t.j2 k2 (rd_L3 l2 x65_2) y273 l2 (l2.length : Int) x65_2 X2 4 X4 X5 X6 X7 X8 X9) else (ropewaylaw15_SnapRuns_t.j2 k2 (rd_L3 l2 x65_2) y273 l2 (l2.length : Int) x65_2 X2 X3 X4 X5 X6 X7 X8 X9)))))) else (none)) = some r := by first | (rw [hy270]; with_reducible exact H) | (have H2_ := (Option.bind_some _ _).symm.trans H; rw [hy270]; with_reducible exact H2_) | (have H2_ := (Option.bind_some _ _).symm.trans H; with_reducible exact H2_) | with_reducible exact H | (rw [hy270]; exact H) | exact H
           have Ny270 := zM hy270
           clear hy270
           by_cases c65 : y270.length + (rd_L3 l2 x65_2).length < 5864062014805
           rotate_left
           · rw [if_neg c65] at H
             exact absurd H (by simp)
           as_aux_lemma =>
            rw [if_pos c65] at H
            have LMc65 := zM c65
            clear c65
            obtain ⟨y273, hy273⟩ : ∃ y_ : List (S34), y_ = (y270 ++ (rd_L3 l2 x65_2)) := ⟨_, rfl⟩
            replace H : (if X3 = 0 then ((api_Cell.f y273).bind fun t276 => (if (y273.length : Int) = 0 then ((snap_Snap_update.f X2 (wrap64 (X3 + 1)) t276).bind fun t279 => (if t279 = true then (ropewaylaw15_SnapRuns_t.j2 k2 (rd_L3 l2 x65_2) y273 l2 (l2.length : Int) x65_2 X2 (wrap64 (X3 + 1)) t276 X5 X6 X7 X8 X9) else (ropewaylaw15_SnapRuns_t.j2 k2 (rd_L3 l2 x65_2) y273 l2 (l2.length : Int) x65_2 X2 4 t276 X5 X6 X7 X8 X9))) else (ropewaylaw15_SnapRuns_t.j2 k2 (rd_L3 l2 x65_2) y273 l2 (l2.length : Int) x65_2 X2 (wrap64 (X3 + 1)) t276 X5 X6 X7 X8 X9))) else (if X3 = 2 then ((api_Cell.f y273).bind fun t280 => (if (y273.length : Int) = 0 then ((snap_Snap_update.f X2 (wrap64 (X3 + 1)) t280).bind fun t283 => (if t283 = true then (ropewaylaw15_SnapRuns_t.j2 k2 (rd_L3 l2 x65_2) y273 l2 (l2.length : Int) x65_2 X2 (wrap64 (X3 + 1)) t280 X5 X6 X7 X8 X9) else (ropewaylaw15_SnapRuns_t.j2 k2 (rd_L3 l2 x65_2) y273 l2 (l2.length : Int) x65_2 X2 4 t280 X5 X6 X7 X8 X9))) else (ropewaylaw15_SnapRuns_t.j2 k2 (rd_L3 l2 x65_2) y273 l2 (l2.length : Int) x65_2 X2 (wrap64 (X3 + 1)) t280 X5 X6 X7 X8 X9))) else (if X3 = 1 then ((snap_Snap_update.f X2 2 X4).bind fun t284 => (if t284 = true then (ropewaylaw15_SnapRuns_t.j2 k2 (rd_L3 l2 x65_2) y273 l2 (l2.length : Int) x65_2 X2 4 X4 X5 X6 X7 X8 X9) else (ropewaylaw15_SnapRuns_t.j2 k2 (rd_L3 l2 x65_2) y273 l2 (l2.length : Int) x65_2 X2 2 X4 X5 X6 X7 X8 X9))) else (if X3 = 3 then (ropewaylaw15_SnapRuns_t.j2 k2 (rd_L3 l2 x65_2) y273 l2 (l2.length : Int) x65_2 X2 4 X4 X5 X6 X7 X8 X9) else (ropewaylaw15_SnapRuns_t.j2 k2 (rd_L3 l2 x65_2) y273 l2 (l2.length : Int) x65_2 X2 X3 X4 X5 X6 X7 X8 X9))))) = some r := by first | (rw [hy273]; with_reducible exact H) | (have H2_ := (Option.bind_some _ _).symm.trans H; rw [hy273]; with_reducible exact H2_) | (have H2_ := (Option.bind_some _ _).symm.trans H; with_reducible exact H2_) | with_reducible exact H | (rw [hy273]; exact H) | exact H
            have Ny273 := zM hy273
            clear hy273
            have tk68 : True := trivial
            have tk70 : True := trivial
            go_upto_region 15 with (first | ((with_reducible refine gate_dst (N := 72) rfl ?_); clear tk68; (try (refine gate_guard (by rfl) ?_; dsimp only)); refine Kd.R_lit k34 _ 34 ?hg (N := 72) ?hd (xs := ([] : List (S34))) (inner := []) (ok := fun _ => True) (okp := fun _ => True) ?hr ?hp (fun _ hk => hk) trivial (Below.refl _ _) (Nat.le_refl _) (by simp) ?_; (case hd => rfl); (case hg => rfl); (case hr => first | (go_simp; done) | (go_simp; rfl)); (case hp => exact (Reps.none _ _)); intro v271 w66 ho67 hb hg_ hnew_; clear hg_ hnew_; (first | rw [← Ny270.out] at ho67 | (simp only [Int.reduceToNat] at ho67; rw [← Ny270.out] at ho67)); replace HOc := zM (Kd.V_elder' (rv_ HOc) (Kd.R_base ho67) hb); have HO272 := zM (Kd.R_lower (Kd.R_newB (Kd.R_new' (Kd.R_new' ho67 (Kd.R_lt (rl_ HOa))) (Kd.R_lt (rl_ HOb))) (g := gb258) (o := .cells #[.int .i64 X0, .int .i64 a1_1, .int .i64 a1_2] 34 (0, 0)) blk_) (below_size bel_)); replace HOa := zM (Kd.R_elder' (rl_ HOa) (Kd.R_base ho67) hb); replace HOb := zM (Kd.R_elder' (rl_ HOb) (Kd.R_base ho67) hb); replace BK258 := zM (bb_ BK258 hb); replace BK261 := zM (bb_ BK261 hb); replace BK262 := zM (bb_ BK262 hb); replace BK266 := zM (bb_ BK266 hb); replace BK267 := zM (bb_ BK267 hb); replace HB := zM (zB bel_ hb); clear hb ho67) | ((with_reducible refine gate_builtin (b := .append) (xs := #[.tmp 72, .tmp 73]) rfl ?_); clear tk70; (try (refine gate_guard (by rfl) ?_; dsimp only)); at_builtin; refine Kd.R_append_rows k34 (w0 := w) w.heap.size rfl (.tmp 72) (.tmp 73) 27 34 (.agg #[(.int .i64 0), (.int .i64 0), (.int .i64 0)]) 24 rfl Try.underlying27 info34 rfl (by decide) (by omega) v271 y270 (rd_L3 l2 x65_2) _ _ _ (fun k_ => some k_ ≠ (u267000 : Value).ownBlock ∧ some k_ ≠ (u267002 : Value).ownBlock ∧ k_ ≠ gb258) (fun _ => False) rfl rfl ?aO ?aR (fun _ _ h => h) (fun _ h => h.elim) ?aF ?aB ?aS ?aL ?_; (case aR => repeat (first | exact (Kd.C_below HR268_0.out HB.out) | (with_reducible refine Kd.C_alloc ?_ _) | (with_reducible refine Kd.C_drewN ?_ _) | (with_reducible refine Kd.C_drew ?_))); (case aB => exact bel_); (case aF => exact (fun k_ hk => ⟨Kd.fresh' (Kd.R_lt (rl_ HOa)) k_ hk, Kd.fresh' (Kd.R_lt (rl_ HOb)) k_ hk, Kd.freshB (g := gb258) (o := .cells #[.int .i64 X0, .int .i64 a1_1, .int .i64 a1_2] 34 (0, 0)) blk_ k_ hk⟩)); (case aO => exact (by (with_reducible repeat (first | apply Kd.R_alloc | apply Kd.R_drewN | apply Kd.R_drew)); exact Kd.R_mono HO272.out (fun _ h => ⟨h.1.1.2, h.1.2, h.2⟩))); (case aS => exact (below_size bel_)); (case aL => have := LMc65.out; omega); intro v274 w69 ho hb hg hat; rw [← Ny273.out] at ho; replace HOa := zM (Kd.R_after (ok := (fun k_ => some k_ ≠ (u267002 : Value).ownBlock ∧ k_ ≠ gb258)) (rl_ HOa) hg hat); replace HOb := zM (Kd.R_after (ok := (fun k_ => some k_ ≠ (u267000 : Value).ownBlock ∧ k_ ≠ gb258)) (rl_ HOb) hg hat); replace HOc := zM (Kd.V_afterv (ok := (fun k_ => some k_ ≠ (u267000 : Value).ownBlock ∧ some k_ ≠ (u267002 : Value).ownBlock ∧ k_ ≠ gb258 ∧ k_ ≠ gb261 ∧ k_ ≠ gb262 ∧ k_ ≠ gb266 ∧ k_ ≠ gb267)) (rv_ HOc) hg hat); replace BK258 := (bG_ BK258 hg (Kd.R_away HO272.out (fun _ hk => hk.2))); replace BK261 := (bG_ BK261 hg (Kd.R_ne HO272.out BK261.out (by decide))); replace BK262 := (bG_ BK262 hg (Kd.R_ne HO272.out BK262.out (by decide))); replace BK266 := (bG_ BK266 hg (Kd.R_ne HO272.out BK266.out (by decide))); replace BK267 := (bG_ BK267 hg (Kd.R_ne HO272.out BK267.out (by decide))); replace HB := zM (hb); have HO275 := zM (ho); clear HO272; clear ho hb hg hat))
            have HC71 := zM H
            clear H
            go_upto_region 15 with (fail)
            (try simp only [Act.put, zS, zZ, zC])
            go_cut [] (fun wc => ∃ (kq : Nat) (Xf : Int) (Xg : Int) (Xh : List (S34)) (u267002 : Value), Aside0 (ropewaylaw15_SnapRuns_t.j2 kq (rd_L3 l2 x65_2) y273 l2 (l2.length : Int) x65_2 X2 Xg Xh X5 X6 X7 X8 X9 = some r) ∧ Aside0 (kq ≤ k2) ∧ Aside0 (Kd.R k34 34 wc w.heap.size (fun k_ => some k_ ≠ (u267000 : Value).ownBlock ∧ some k_ ≠ (u267002 : Value).ownBlock ∧ k_ ≠ gb258) v274 y273) ∧ Aside0 (Kd.R k34 34 wc w.heap.size (fun k_ => some k_ ≠ (v274 : Value).ownBlock ∧ some k_ ≠ (u267002 : Value).ownBlock ∧ k_ ≠ gb258) u267000 X2) ∧ Aside0 (Kd.R k34 34 wc w.heap.size (fun k_ => some k_ ≠ (v274 : Value).ownBlock ∧ some k_ ≠ (u267000 : Value).ownBlock ∧ k_ ≠ gb258) u267002 Xh) ∧ Aside0 (Kd.V (Kd.slice 34 k34) 27 wc w.heap.size (fun k_ => some k_ ≠ (v274 : Value).ownBlock ∧ some k_ ≠ (u267000 : Value).ownBlock ∧ some k_ ≠ (u267002 : Value).ownBlock ∧ k_ ≠ gb258 ∧ k_ ≠ gb261 ∧ k_ ≠ gb262 ∧ k_ ≠ gb266 ∧ k_ ≠ gb267) u268004 X9) ∧ Aside0 (wc.heap[gb258]? = some (.cells #[.int .i64 X0, .int .i64 a1_1, .int .i64 a1_2] 34 (0, 0))) ∧ Aside0 (wc.heap[gb261]? = some (.cells #[(.slice none 0 0), .int .i64 Xf, (.slice none 0 0)] 61 (0, 0))) ∧ Aside0 (wc.heap[gb262]? = some (.cells #[.int .i64 a1_1, .int .i64 a1_2] 26 (0, 0))) ∧ Aside0 (wc.heap[gb266]? = some (.cells #[u267000, .int .i64 Xg, u267002] 61 (0, 0))) ∧ Aside0 (wc.heap[gb267]? = some (.cells #[.bool X5, .int .i64 X6, .int .i64 X7, .int .i64 X8, u268004] 38 (0, 0))) ∧ Aside0 (Below w.heap.size w wc))
            case first => as_aux_lemma =>
             have H := HC71.out
             clear HC71
             by_cases c72 : X3 = 0
             ·
              rw [if_pos c72] at H
              have c72b0 : (X3 == 0) = true := beq_iff_eq.mpr c72
              have c72b1 : (X3 != 0) = false := bne_eq_false_iff_eq.mpr c72
              clear c72
              (first | rw [c72b0] | (simp only [i64_w, i32_w]; rw [c72b0]) | skip)
              replace H := Option.bind_eq_some_iff.mp H
              obtain ⟨t276, A730, H⟩ := H
              replace H : (if (y273.length : Int) = 0 then ((snap_Snap_update.f X2 (wrap64 (X3 + 1)) t276).bind fun t279 => (if t279 = true then (ropewaylaw15_SnapRuns_t.j2 k2 (rd_L3 l2 x65_2) y273 l2 (l2.length : Int) x65_2 X2 (wrap64 (X3 + 1)) t276 X5 X6 X7 X8 X9) else (ropewaylaw15_SnapRuns_t.j2 k2 (rd_L3 l2 x65_2) y273 l2 (l2.length : Int) x65_2 X2 4 t276 X5 X6 X7 X8 X9))) else (ropewaylaw15_SnapRuns_t.j2 k2 (rd_L3 l2 x65_2) y273 l2 (l2.length : Int) x65_2 X2 (wrap64 (X3 + 1)) t276 X5 X6 X7 X8 X9)) = some r := H
              have A73 := zM A730
              clear A730
              by_cases c74 : (y273.length : Int) = 0
              rotate_left
              · as_aux_lemma =>
                 rw [if_neg c74] at H
                 have c74b0 : ((y273.length : Int) == 0) = false := beq_eq_false_iff_ne.mpr c74
                 have c74b1 : ((y273.length : Int) != 0) = true := bne_iff_ne.mpr c74
                 have c74b2 : ¬ (y273 = []) := fun h_ => c74 (by rw [h_]; rfl)
                 have H' := zM H
                 clear H
                 obtain ⟨Ao110, co110, eo110⟩ := Kd.R_slice HO275.out
                 subst eo110
                 have tk111 : True := trivial
                 have tk118 : True := trivial
                 have tk122 : True := trivial
                 have tk123 : True := trivial
                 go_wp2_with (first | ((with_reducible refine gate_callee (f := 15) rfl ?_); clear tk111; refine goL_ (some 77) Try.func15 #[.pointer (some ⟨gb266, 0, none⟩), .slice Ao110 y273.length co110] ?_; go_enter Try.func15, Try.ntmps15; have hnb112 := NB266_258.out; have hnc112 := NB258_266.out; have hnb113 := NB266_261.out; have hnc113 := NB261_266.out; have hnb114 := NB266_262.out; have hnc114 := NB262_266.out; have hnb115 := NB266_267.out; have hnc115 := NB267_266.out; have hcz116 := rf3_ BK266.out) | ((with_reducible refine gate_callee (f := 25) rfl ?_); clear tk118; refine goL_ (some 13) Try.func25 #[.slice Ao110 y273.length co110] ?_; (with_reducible refine (api_Cell.calls _ _ y273 t276 _ ?side1 ?side2 A73.out).mono ?_); (case side1 => exact (Kd.R_reads' HO275.out).2.2); (case side2 => exact (Kd.R_reads' HO275.out).2.1); rintro e w117 ⟨v277, rfl, ho0, hb⟩; refine ⟨_, rfl, ?_⟩; replace HOc := zM (Kd.V_elder' (rv_ HOc) (Kd.R_base ho0) hb); have HO278 := zM (Kd.R_lower (Kd.R_newB (Kd.R_new' (Kd.R_new' (Kd.R_new' ho0 (Kd.R_lt (rl_ HOa))) (Kd.R_lt (rl_ HOb))) (Kd.R_lt (rl_ HO275))) (g := gb258) (o := .cells #[.int .i64 X0, .int .i64 a1_1, .int .i64 a1_2] 34 (0, 0)) blk_) (below_size bel_)); replace HOa := zM (Kd.R_elder' (rl_ HOa) (Kd.R_base ho0) hb); replace HOb := zM (Kd.R_elder' (rl_ HOb) (Kd.R_base ho0) hb); replace HO275 := zM (Kd.R_elder' (rl_ HO275) (Kd.R_base ho0) hb); replace BK258 := zM (bb_ BK258 hb); replace BK261 := zM (bb_ BK261 hb); replace BK262 := zM (bb_ BK262 hb); replace BK266 := zM (bb_ BK266 hb); replace BK267 := zM (bb_ BK267 hb); replace HB := zM (zB bel_ hb); (try clear hb); (try clear ho0); obtain ⟨Ao119, co119, eo119⟩ := Kd.R_slice HO278.out; subst eo119; have hcz120 := rf3_ BK266.out) | ((with_reducible refine gate_store (t := 3) (p := 22) rfl ?_); clear tk122; refine store_event (t := 3) (p := 22) (v := ?vo_w121) (w1 := ((w117.setCell ⟨gb266, 2, none⟩ (.slice Ao119 t276.length co119)).setCell ⟨gb266, 1, none⟩ (.int .i64 (wrap64 (X3 + 1))))) ?hg ?ho ?hn ?hr ?_; (case ho => rfl); (case hg => rfl); (case hn => rfl); (case hr => first | (go_simp; done) | (go_simp; rfl)); intro w121 hw; replace HOa : Aside0 (Kd.R k34 34 w121 w.heap.size (fun k_ => some k_ ≠ (u267002 : Value).ownBlock ∧ some k_ ≠ (.slice Ao110 y273.length co110 : Value).ownBlock ∧ some k_ ≠ (.slice Ao119 t276.length co119 : Value).ownBlock ∧ k_ ≠ gb258) u267000 X2) := tR2_ hw HOa BK266 (fun _ h => ⟨h.1.1.1.1, h.1.1.2, h.1.2, h.1.1.1.2⟩); replace HOb : Aside0 (Kd.R k34 34 w121 w.heap.size (fun k_ => some k_ ≠ (u267000 : Value).ownBlock ∧ some k_ ≠ (.slice Ao110 y273.length co110 : Value).ownBlock ∧ some k_ ≠ (.slice Ao119 t276.length co119 : Value).ownBlock ∧ k_ ≠ gb258) u267002 X4) := tR2_ hw HOb BK266 (fun _ h => ⟨h.1.1.1.1, h.1.1.2, h.1.2, h.1.1.1.2⟩); replace HOc : Aside0 (Kd.V (Kd.slice 34 k34) 27 w121 w.heap.size (fun k_ => some k_ ≠ (u267000 : Value).ownBlock ∧ some k_ ≠ (u267002 : Value).ownBlock ∧ some k_ ≠ (.slice Ao110 y273.length co110 : Value).ownBlock ∧ some k_ ≠ (.slice Ao119 t276.length co119 : Value).ownBlock ∧ k_ ≠ gb258 ∧ k_ ≠ gb261 ∧ k_ ≠ gb262 ∧ k_ ≠ gb266 ∧ k_ ≠ gb267) u268004 X9) := tV2_ hw HOc (fun _ h => h.1.1.2.2.2.2.2.1) (fun _ h => ⟨h.1.1.1.1, h.1.1.1.2.1, h.1.1.2, h.1.2, h.1.1.1.2.2⟩); replace HO275 : Aside0 (Kd.R k34 34 w121 w.heap.size (fun k_ => some k_ ≠ (u267000 : Value).ownBlock ∧ some k_ ≠ (u267002 : Value).ownBlock ∧ some k_ ≠ (.slice Ao119 t276.length co119 : Value).ownBlock ∧ k_ ≠ gb258) (.slice Ao110 y273.length co110) y273) := tR2_ hw HO275 BK266 (fun _ h => ⟨h.1.1.1, h.1.1.2.1, h.1.2, h.1.1.2.2⟩); replace HO278 : Aside0 (Kd.R k34 34 w121 w.heap.size (fun k_ => some k_ ≠ (u267000 : Value).ownBlock ∧ some k_ ≠ (u267002 : Value).ownBlock ∧ some k_ ≠ (.slice Ao110 y273.length co110 : Value).ownBlock ∧ k_ ≠ gb258) (.slice Ao119 t276.length co119) t276) := tR2_ hw HO278 BK266 (fun _ h => ⟨h.1.1.1.1.2, h.1.1.1.2, h.1.1.2, h.1.2⟩); replace BK258 := bB2_ hw BK258 NB258_266; replace BK261 := bB2_ hw BK261 NB261_266; replace BK262 := bB2_ hw BK262 NB262_266; replace BK266 : Aside0 (w121.heap[gb266]? = some (.cells #[u267000, .int .i64 (wrap64 (X3 + 1)), .slice Ao119 t276.length co119] 61 (0, 0))) := bP2_ hw BK266 rfl; replace BK267 := bB2_ hw BK267 NB267_266; replace HB : Aside0 (Below w.heap.size w w121) := ⟨(by rw [hw]; exact bel_)⟩; clear hw) | (clear tk123; (first | go_ret | go_ret2 | go_ret3 | go_end0); with_reducible refine inl_back_ ?_))
                 go_meet
                 case rel => exact ⟨_, (X1), (wrap64 (X3 + 1)), (t276), (.slice Ao119 t276.length co119), H', ⟨by have := HJ9.out; have := HK2.out; first | omega | exact Nat.le_refl _⟩, rm_ HO275 (fun _ h => ⟨h.1, h.2.2⟩), rm_ HOa (fun _ h => h.2), rm_ HO278 (fun _ h => ⟨h.2.2.1, h.1, h.2.2.2⟩), vm_ HOc (fun _ h => ⟨h.2.2.1, h.1, h.2.2.2⟩), ⟨blf_⟩, ⟨blf_⟩, ⟨blf_⟩, ⟨blf_⟩, ⟨blf_⟩, ⟨bel_⟩⟩
              as_aux_lemma =>
               rw [if_pos c74] at H
               have c74b0 : ((y273.length : Int) == 0) = true := beq_iff_eq.mpr c74
               have c74b1 : ((y273.length : Int) != 0) = false := bne_eq_false_iff_eq.mpr c74
               clear c74
               replace H := Option.bind_eq_some_iff.mp H
               obtain ⟨t279, A750, H⟩ := H
               replace H : (if t279 = true then (ropewaylaw15_SnapRuns_t.j2 k2 (rd_L3 l2 x65_2) y273 l2 (l2.length : Int) x65_2 X2 (wrap64 (X3 + 1)) t276 X5 X6 X7 X8 X9) else (ropewaylaw15_SnapRuns_t.j2 k2 (rd_L3 l2 x65_2) y273 l2 (l2.length : Int) x65_2 X2 4 t276 X5 X6 X7 X8 X9)) = some r := H
               have A75 := zM A750
               clear A750
               by_cases c76 : t279 = true
               · subst c76
                 have H1 : (ropewaylaw15_SnapRuns_t.j2 k2 (rd_L3 l2 x65_2) y273 l2 (l2.length : Int) x65_2 X2 (wrap64 (X3 + 1)) t276 X5 X6 X7 X8 X9) = some r := by rw [if_pos rfl] at H; exact H
                 clear H
                 have H := H1
                 clear H1
                 have H' := zM H
                 clear H
                 obtain ⟨Ao77, co77, eo77⟩ := Kd.R_slice HO275.out
                 subst eo77
                 have tk78 : True := trivial
                 have tk85 : True := trivial
                 have tk89 : True := trivial
                 have tk91 : True := trivial
                 have tk92 : True := trivial
                 go_wp2_with (first | ((with_reducible refine gate_callee (f := 15) rfl ?_); clear tk78; refine goL_ (some 77) Try.func15 #[.pointer (some ⟨gb266, 0, none⟩), .slice Ao77 y273.length co77] ?_; go_enter Try.func15, Try.ntmps15; have hnb79 := NB266_258.out; have hnc79 := NB258_266.out; have hnb80 := NB266_261.out; have hnc80 := NB261_266.out; have hnb81 := NB266_262.out; have hnc81 := NB262_266.out; have hnb82 := NB266_267.out; have hnc82 := NB267_266.out; have hcz83 := rf3_ BK266.out) | ((with_reducible refine gate_callee (f := 25) rfl ?_); clear tk85; refine goL_ (some 13) Try.func25 #[.slice Ao77 y273.length co77] ?_; (with_reducible refine (api_Cell.calls _ _ y273 t276 _ ?side1 ?side2 A73.out).mono ?_); (case side1 => exact (Kd.R_reads' HO275.out).2.2); (case side2 => exact (Kd.R_reads' HO275.out).2.1); rintro e w84 ⟨v277, rfl, ho0, hb⟩; refine ⟨_, rfl, ?_⟩; replace HOc := zM (Kd.V_elder' (rv_ HOc) (Kd.R_base ho0) hb); have HO278 := zM (Kd.R_lower (Kd.R_newB (Kd.R_new' (Kd.R_new' (Kd.R_new' ho0 (Kd.R_lt (rl_ HOa))) (Kd.R_lt (rl_ HOb))) (Kd.R_lt (rl_ HO275))) (g := gb258) (o := .cells #[.int .i64 X0, .int .i64 a1_1, .int .i64 a1_2] 34 (0, 0)) blk_) (below_size bel_)); replace HOa := zM (Kd.R_elder' (rl_ HOa) (Kd.R_base ho0) hb); replace HOb := zM (Kd.R_elder' (rl_ HOb) (Kd.R_base ho0) hb); replace HO275 := zM (Kd.R_elder' (rl_ HO275) (Kd.R_base ho0) hb); replace BK258 := zM (bb_ BK258 hb); replace BK261 := zM (bb_ BK261 hb); replace BK262 := zM (bb_ BK262 hb); replace BK266 := zM (bb_ BK266 hb); replace BK267 := zM (bb_ BK267 hb); replace HB := zM (zB bel_ hb); (try clear hb); (try clear ho0); obtain ⟨Ao86, co86, eo86⟩ := Kd.R_slice HO278.out; subst eo86; have hcz87 := rf3_ BK266.out) | ((with_reducible refine gate_store (t := 3) (p := 22) rfl ?_); clear tk89; refine store_event (t := 3) (p := 22) (v := ?vo_w88) (w1 := ((w84.setCell ⟨gb266, 2, none⟩ (.slice Ao86 t276.length co86)).setCell ⟨gb266, 1, none⟩ (.int .i64 (wrap64 (X3 + 1))))) ?hg ?ho ?hn ?hr ?_; (case ho => rfl); (case hg => rfl); (case hn => rfl); (case hr => first | (go_simp; done) | (go_simp; rfl)); intro w88 hw; replace HOa : Aside0 (Kd.R k34 34 w88 w.heap.size (fun k_ => some k_ ≠ (u267002 : Value).ownBlock ∧ some k_ ≠ (.slice Ao77 y273.length co77 : Value).ownBlock ∧ some k_ ≠ (.slice Ao86 t276.length co86 : Value).ownBlock ∧ k_ ≠ gb258) u267000 X2) := tR2_ hw HOa BK266 (fun _ h => ⟨h.1.1.1.1, h.1.1.2, h.1.2, h.1.1.1.2⟩); replace HOb : Aside0 (Kd.R k34 34 w88 w.heap.size (fun k_ => some k_ ≠ (u267000 : Value).ownBlock ∧ some k_ ≠ (.slice Ao77 y273.length co77 : Value).ownBlock ∧ some k_ ≠ (.slice Ao86 t276.length co86 : Value).ownBlock ∧ k_ ≠ gb258) u267002 X4) := tR2_ hw HOb BK266 (fun _ h => ⟨h.1.1.1.1, h.1.1.2, h.1.2, h.1.1.1.2⟩); replace HOc : Aside0 (Kd.V (Kd.slice 34 k34) 27 w88 w.heap.size (fun k_ => some k_ ≠ (u267000 : Value).ownBlock ∧ some k_ ≠ (u267002 : Value).ownBlock ∧ some k_ ≠ (.slice Ao77 y273.length co77 : Value).ownBlock ∧ some k_ ≠ (.slice Ao86 t276.length co86 : Value).ownBlock ∧ k_ ≠ gb258 ∧ k_ ≠ gb261 ∧ k_ ≠ gb262 ∧ k_ ≠ gb266 ∧ k_ ≠ gb267) u268004 X9) := tV2_ hw HOc (fun _ h => h.1.1.2.2.2.2.2.1) (fun _ h => ⟨h.1.1.1.1, h.1.1.1.2.1, h.1.1.2, h.1.2, h.1.1.1.2.2⟩); replace HO275 : Aside0 (Kd.R k34 34 w88 w.heap.size (fun k_ => some k_ ≠ (u267000 : Value).ownBlock ∧ some k_ ≠ (u267002 : Value).ownBlock ∧ some k_ ≠ (.slice Ao86 t276.length co86 : Value).ownBlock ∧ k_ ≠ gb258) (.slice Ao77 y273.length co77) y273) := tR2_ hw HO275 BK266 (fun _ h => ⟨h.1.1.1, h.1.1.2.1, h.1.2, h.1.1.2.2⟩); replace HO278 : Aside0 (Kd.R k34 34 w88 w.heap.size (fun k_ => some k_ ≠ (u267000 : Value).ownBlock ∧ some k_ ≠ (u267002 : Value).ownBlock ∧ some k_ ≠ (.slice Ao77 y273.length co77 : Value).ownBlock ∧ k_ ≠ gb258) (.slice Ao86 t276.length co86) t276) := tR2_ hw HO278 BK266 (fun _ h => ⟨h.1.1.1.1.2, h.1.1.1.2, h.1.1.2, h.1.2⟩); replace BK258 := bB2_ hw BK258 NB258_266; replace BK261 := bB2_ hw BK261 NB261_266; replace BK262 := bB2_ hw BK262 NB262_266; replace BK266 : Aside0 (w88.heap[gb266]? = some (.cells #[u267000, .int .i64 (wrap64 (X3 + 1)), .slice Ao86 t276.length co86] 61 (0, 0))) := bP2_ hw BK266 rfl; replace BK267 := bB2_ hw BK267 NB267_266; replace HB : Aside0 (Below w.heap.size w w88) := ⟨(by rw [hw]; exact bel_)⟩; clear hw; obtain ⟨Ao90, co90, eo90⟩ := Kd.R_slice HOa.out; subst eo90) | (go_at_call 26; (with_reducible refine (snap_Snap_update.calls gb266 Ao90 co90 X2 (wrap64 (X3 + 1)) Ao86 co86 t276 true _ ?side1 ?side2 ?side3 ?side4 ?side5 A75.out).mono ?_); (case side1 => exact (Kd.R_reads' HOa.out).2.2); (case side2 => exact (Kd.R_reads' HOa.out).2.1); (case side3 => exact (Kd.R_reads' HO278.out).2.2); (case side4 => exact (Kd.R_reads' HO278.out).2.1); (case side5 => exact blf_); clear tk91; rintro e w' ⟨rfl, ⟨nd, rfl⟩⟩) | (clear tk92; (first | go_ret | go_ret2 | go_ret3 | go_end0); with_reducible refine inl_back_ ?_))
                 go_meet
                 case rel => exact ⟨_, (X1), (wrap64 (X3 + 1)), (t276), (.slice Ao86 t276.length co86), H', ⟨by have := HJ9.out; have := HK2.out; first | omega | exact Nat.le_refl _⟩, rm_ HO275 (fun _ h => ⟨h.1, h.2.2⟩), rm_ HOa (fun _ h => h.2), rm_ HO278 (fun _ h => ⟨h.2.2.1, h.1, h.2.2.2⟩), vm_ HOc (fun _ h => ⟨h.2.2.1, h.1, h.2.2.2⟩), ⟨blf_⟩, ⟨blf_⟩, ⟨blf_⟩, ⟨blf_⟩, ⟨blf_⟩, ⟨bel_⟩⟩
               replace c76 := Bool.eq_false_iff.mpr c76
               subst c76
               have H1 : (ropewaylaw15_SnapRuns_t.j2 k2 (rd_L3 l2 x65_2) y273 l2 (l2.length : Int) x65_2 X2 4 t276 X5 X6 X7 X8 X9) = some r := by rw [if_neg (show ¬ (false = true) by decide)] at H; exact H
               clear H
               have H := H1
               clear H1
               have H' := zM H
               clear H
               obtain ⟨Ao93, co93, eo93⟩ := Kd.R_slice HO275.out
               subst eo93
               have tk94 : True := trivial
               have tk101 : True := trivial
               have tk105 : True := trivial
               have tk108 : True := trivial
               have tk109 : True := trivial
               go_wp2_with (first | ((with_reducible refine gate_callee (f := 15) rfl ?_); clear tk94; refine goL_ (some 77) Try.func15 #[.pointer (some ⟨gb266, 0, none⟩), .slice Ao93 y273.length co93] ?_; go_enter Try.func15, Try.ntmps15; have hnb95 := NB266_258.out; have hnc95 := NB258_266.out; have hnb96 := NB266_261.out; have hnc96 := NB261_266.out; have hnb97 := NB266_262.out; have hnc97 := NB262_266.out; have hnb98 := NB266_267.out; have hnc98 := NB267_266.out; have hcz99 := rf3_ BK266.out) | ((with_reducible refine gate_callee (f := 25) rfl ?_); clear tk101; refine goL_ (some 13) Try.func25 #[.slice Ao93 y273.length co93] ?_; (with_reducible refine (api_Cell.calls _ _ y273 t276 _ ?side1 ?side2 A73.out).mono ?_); (case side1 => exact (Kd.R_reads' HO275.out).2.2); (case side2 => exact (Kd.R_reads' HO275.out).2.1); rintro e w100 ⟨v277, rfl, ho0, hb⟩; refine ⟨_, rfl, ?_⟩; replace HOc := zM (Kd.V_elder' (rv_ HOc) (Kd.R_base ho0) hb); have HO278 := zM (Kd.R_lower (Kd.R_newB (Kd.R_new' (Kd.R_new' (Kd.R_new' ho0 (Kd.R_lt (rl_ HOa))) (Kd.R_lt (rl_ HOb))) (Kd.R_lt (rl_ HO275))) (g := gb258) (o := .cells #[.int .i64 X0, .int .i64 a1_1, .int .i64 a1_2] 34 (0, 0)) blk_) (below_size bel_)); replace HOa := zM (Kd.R_elder' (rl_ HOa) (Kd.R_base ho0) hb); replace HOb := zM (Kd.R_elder' (rl_ HOb) (Kd.R_base ho0) hb); replace HO275 := zM (Kd.R_elder' (rl_ HO275) (Kd.R_base ho0) hb); replace BK258 := zM (bb_ BK258 hb); replace BK261 := zM (bb_ BK261 hb); replace BK262 := zM (bb_ BK262 hb); replace BK266 := zM (bb_ BK266 hb); replace BK267 := zM (bb_ BK267 hb); replace HB := zM (zB bel_ hb); (try clear hb); (try clear ho0); obtain ⟨Ao102, co102, eo102⟩ := Kd.R_slice HO278.out; subst eo102; have hcz103 := rf3_ BK266.out; obtain ⟨Ao104, co104, eo104⟩ := Kd.R_slice HOa.out; subst eo104) | (go_at_call 26; (with_reducible refine (snap_Snap_update.calls gb266 Ao104 co104 X2 (wrap64 (X3 + 1)) Ao102 co102 t276 false _ ?side1 ?side2 ?side3 ?side4 ?side5 A75.out).mono ?_); (case side1 => refine (Kd.R_reads' (e := 34) (base := w.heap.size) (ok := fun k_ => (((some k_ ≠ (u267002 : Value).ownBlock ∧ k_ ≠ gb258) ∧ some k_ ≠ (.slice Ao93 y273.length co93 : Value).ownBlock) ∧ some k_ ≠ (.slice Ao102 t276.length co102 : Value).ownBlock)) (n := X2.length) (c := co104) ?_).2.2; exact (by (with_reducible repeat (first | apply Kd.R_alloc | apply Kd.R_drewN | apply Kd.R_drew)); exact (Kd.R_mono (Kd.R_far (p := ⟨gb266, 1, none⟩) (Kd.R_far (p := ⟨gb266, 2, none⟩) (Kd.R_types HOa.out BK266.out (by decide)) (fun _ hk => hk.2) (.slice Ao102 t276.length co102)) (fun _ hk => hk.2) (.int .i64 (wrap64 (X3 + 1)))) (fun _ h_ => h_.1)))); (case side2 => exact (Kd.R_reads' HOa.out).2.1); (case side3 => refine (Kd.R_reads' (e := 34) (base := w.heap.size) (ok := fun k_ => ((((True ∧ some k_ ≠ (.slice Ao104 X2.length co104 : Value).ownBlock) ∧ some k_ ≠ (u267002 : Value).ownBlock) ∧ some k_ ≠ (.slice Ao93 y273.length co93 : Value).ownBlock) ∧ k_ ≠ gb258)) (n := t276.length) (c := co102) ?_).2.2; exact (by (with_reducible repeat (first | apply Kd.R_alloc | apply Kd.R_drewN | apply Kd.R_drew)); exact (Kd.R_mono (Kd.R_far (p := ⟨gb266, 1, none⟩) (Kd.R_far (p := ⟨gb266, 2, none⟩) (Kd.R_types HO278.out BK266.out (by decide)) (fun _ hk => hk.2) (.slice Ao102 t276.length co102)) (fun _ hk => hk.2) (.int .i64 (wrap64 (X3 + 1)))) (fun _ h_ => h_.1)))); (case side4 => exact (Kd.R_reads' HO278.out).2.1); (case side5 => exact by (with_reducible repeat (first | refine zN ?_ _ | refine zD ?_ | refine zA ?_ _)); refine blk_put (cs := #[.slice Ao104 X2.length co104, .int .i64 X3, .slice Ao102 t276.length co102]) ?_ 1 _ rfl; (with_reducible repeat (first | refine zN ?_ _ | refine zD ?_ | refine zA ?_ _)); refine blk_put (cs := #[.slice Ao104 X2.length co104, .int .i64 X3, u267002]) ?_ 2 _ rfl; (with_reducible repeat (first | refine zN ?_ _ | refine zD ?_ | refine zA ?_ _)); exact BK266.out); clear tk105; rintro e w' ⟨rfl, ⟨nd, rfl⟩⟩; have hcy106 : ((((w100.setCell ⟨gb266, 2, none⟩ (.slice Ao102 t276.length co102)).setCell ⟨gb266, 1, none⟩ (.int .i64 (wrap64 (X3 + 1)))).drewN nd).setCell ⟨gb266, 1, none⟩ (.int .i64 4)).cell? ⟨gb266, 1, none⟩ = some (.int .i64 4) := (zL (show ((((w100.setCell ⟨gb266, 2, none⟩ (.slice Ao102 t276.length co102)).setCell ⟨gb266, 1, none⟩ (.int .i64 (wrap64 (X3 + 1)))).drewN nd).setCell ⟨gb266, 1, none⟩ (.int .i64 4)).heap[gb266]? = some (.cells #[.slice Ao104 X2.length co104, .int .i64 4, .slice Ao102 t276.length co102] 61 (0, 0)) from by (with_reducible repeat (first | refine zN ?_ _ | refine zD ?_ | refine zA ?_ _)); refine blk_put (cs := #[.slice Ao104 X2.length co104, .int .i64 (wrap64 (X3 + 1)), .slice Ao102 t276.length co102]) ?_ 1 _ rfl; (with_reducible repeat (first | refine zN ?_ _ | refine zD ?_ | refine zA ?_ _)); refine blk_put (cs := #[.slice Ao104 X2.length co104, .int .i64 X3, .slice Ao102 t276.length co102]) ?_ 1 _ rfl; (with_reducible repeat (first | refine zN ?_ _ | refine zD ?_ | refine zA ?_ _)); refine blk_put (cs := #[.slice Ao104 X2.length co104, .int .i64 X3, u267002]) ?_ 2 _ rfl; (with_reducible repeat (first | refine zN ?_ _ | refine zD ?_ | refine zA ?_ _)); exact BK266.out) 1).trans rfl) | ((with_reducible refine gate_store (t := 3) (p := 33) rfl ?_); clear tk108; refine store_event (t := 3) (p := 33) (v := ?vo_w107) (w1 := ((((w100.setCell ⟨gb266, 2, none⟩ (.slice Ao102 t276.length co102)).setCell ⟨gb266, 1, none⟩ (.int .i64 (wrap64 (X3 + 1)))).drewN nd).setCell ⟨gb266, 1, none⟩ (.int .i64 4))) ?hg ?ho ?hn ?hr ?_; (case ho => rfl); (case hg => rfl); (case hn => rfl); (case hr => first | (go_simp; done) | (go_simp; rfl)); intro w107 hw; replace HOa : Aside0 (Kd.R k34 34 w107 w.heap.size (fun k_ => some k_ ≠ (u267002 : Value).ownBlock ∧ some k_ ≠ (.slice Ao93 y273.length co93 : Value).ownBlock ∧ some k_ ≠ (.slice Ao102 t276.length co102 : Value).ownBlock ∧ k_ ≠ gb258) (.slice Ao104 X2.length co104) X2) := tR2d1_ hw HOa BK266 (fun _ h => ⟨h.1.1.1.1, h.1.1.2, h.1.2, h.1.1.1.2⟩); replace HOb : Aside0 (Kd.R k34 34 w107 w.heap.size (fun k_ => some k_ ≠ (.slice Ao104 X2.length co104 : Value).ownBlock ∧ some k_ ≠ (.slice Ao93 y273.length co93 : Value).ownBlock ∧ some k_ ≠ (.slice Ao102 t276.length co102 : Value).ownBlock ∧ k_ ≠ gb258) u267002 X4) := tR2d1_ hw HOb BK266 (fun _ h => ⟨h.1.1.1.1, h.1.1.2, h.1.2, h.1.1.1.2⟩); replace HOc : Aside0 (Kd.V (Kd.slice 34 k34) 27 w107 w.heap.size (fun k_ => some k_ ≠ (.slice Ao104 X2.length co104 : Value).ownBlock ∧ some k_ ≠ (u267002 : Value).ownBlock ∧ some k_ ≠ (.slice Ao93 y273.length co93 : Value).ownBlock ∧ some k_ ≠ (.slice Ao102 t276.length co102 : Value).ownBlock ∧ k_ ≠ gb258 ∧ k_ ≠ gb261 ∧ k_ ≠ gb262 ∧ k_ ≠ gb266 ∧ k_ ≠ gb267) u268004 X9) := tV2d1_ hw HOc (fun _ h => h.1.1.2.2.2.2.2.1) (fun _ h => ⟨h.1.1.1.1, h.1.1.1.2.1, h.1.1.2, h.1.2, h.1.1.1.2.2⟩); replace HO275 : Aside0 (Kd.R k34 34 w107 w.heap.size (fun k_ => some k_ ≠ (.slice Ao104 X2.length co104 : Value).ownBlock ∧ some k_ ≠ (u267002 : Value).ownBlock ∧ some k_ ≠ (.slice Ao102 t276.length co102 : Value).ownBlock ∧ k_ ≠ gb258) (.slice Ao93 y273.length co93) y273) := tR2d1_ hw HO275 BK266 (fun _ h => ⟨h.1.1.1, h.1.1.2.1, h.1.2, h.1.1.2.2⟩); replace HO278 : Aside0 (Kd.R k34 34 w107 w.heap.size (fun k_ => some k_ ≠ (.slice Ao104 X2.length co104 : Value).ownBlock ∧ some k_ ≠ (u267002 : Value).ownBlock ∧ some k_ ≠ (.slice Ao93 y273.length co93 : Value).ownBlock ∧ k_ ≠ gb258) (.slice Ao102 t276.length co102) t276) := tR2d1_ hw HO278 BK266 (fun _ h => ⟨h.1.1.1.1.2, h.1.1.1.2, h.1.1.2, h.1.2⟩); replace BK258 := bB2d1_ hw BK258 NB258_266; replace BK261 := bB2d1_ hw BK261 NB261_266; replace BK262 := bB2d1_ hw BK262 NB262_266; replace BK266 : Aside0 (w107.heap[gb266]? = some (.cells #[.slice Ao104 X2.length co104, .int .i64 4, .slice Ao102 t276.length co102] 61 (0, 0))) := bP2d1_ hw BK266 rfl; replace BK267 := bB2d1_ hw BK267 NB267_266; replace HB : Aside0 (Below w.heap.size w w107) := ⟨(by rw [hw]; exact bel_)⟩; clear hw) | (clear tk109; (first | go_ret | go_ret2 | go_ret3 | go_end0); with_reducible refine inl_back_ ?_))
               go_meet
               case rel => exact ⟨_, (X1), (4), (t276), (.slice Ao102 t276.length co102), H', ⟨by have := HJ9.out; have := HK2.out; first | omega | exact Nat.le_refl _⟩, rm_ HO275 (fun _ h => ⟨h.1, h.2.2⟩), rm_ HOa (fun _ h => h.2), rm_ HO278 (fun _ h => ⟨h.2.2.1, h.1, h.2.2.2⟩), vm_ HOc (fun _ h => ⟨h.2.2.1, h.1, h.2.2.2⟩), ⟨blf_⟩, ⟨blf_⟩, ⟨blf_⟩, ⟨blf_⟩, ⟨blf_⟩, ⟨bel_⟩⟩
             rw [if_neg c72] at H
             have c72b0 : (X3 == 0) = false := beq_eq_false_iff_ne.mpr c72
             have c72b1 : (X3 != 0) = true := bne_iff_ne.mpr c72
             (first | rw [c72b0] | (simp only [i64_w, i32_w]; rw [c72b0]) | skip)
             by_cases c124 : X3 = 2
             rotate_left
             ·
              as_aux_lemma =>
               rw [if_neg c124] at H
               have c124b0 : (X3 == 2) = false := beq_eq_false_iff_ne.mpr c124
               have c124b1 : (X3 != 2) = true := bne_iff_ne.mpr c124
               by_cases c176 : X3 = 1
               rotate_left
               ·
                as_aux_lemma =>
                 rw [if_neg c176] at H
                 have c176b0 : (X3 == 1) = false := beq_eq_false_iff_ne.mpr c176
                 have c176b1 : (X3 != 1) = true := bne_iff_ne.mpr c176
                 by_cases c206 : X3 = 3
                 rotate_left
                 · rw [if_neg c206] at H
                   have c206b0 : (X3 == 3) = false := beq_eq_false_iff_ne.mpr c206
                   have c206b1 : (X3 != 3) = true := bne_iff_ne.mpr c206
                   have H' := zM H
                   clear H
                   obtain ⟨Ao217, co217, eo217⟩ := Kd.R_slice HO275.out
                   subst eo217
                   have tk218 : True := trivial
                   have tk224 : True := trivial
                   go_wp2_with (first | ((with_reducible refine gate_callee (f := 15) rfl ?_); clear tk218; refine goL_ (some 77) Try.func15 #[.pointer (some ⟨gb266, 0, none⟩), .slice Ao217 y273.length co217] ?_; go_enter Try.func15, Try.ntmps15; have hnb219 := NB266_258.out; have hnc219 := NB258_266.out; have hnb220 := NB266_261.out; have hnc220 := NB261_266.out; have hnb221 := NB266_262.out; have hnc221 := NB262_266.out; have hnb222 := NB266_267.out; have hnc222 := NB267_266.out; have hcz223 := rf3_ BK266.out) | (clear tk224; (first | go_ret | go_ret2 | go_ret3 | go_end0); with_reducible refine inl_back_ ?_))
                   go_meet
                   case rel => exact ⟨_, (X1), (X3), (X4), (u267002), H', ⟨by have := HJ9.out; have := HK2.out; first | omega | exact Nat.le_refl _⟩, HO275, rm_ HOa (fun _ h => ⟨h.2, h.1⟩), rm_ HOb (fun _ h => ⟨h.2, h.1⟩), vm_ HOc (fun _ h => ⟨h.2, h.1⟩), ⟨blf_⟩, ⟨blf_⟩, ⟨blf_⟩, ⟨blf_⟩, ⟨blf_⟩, ⟨bel_⟩⟩
                 rw [if_pos c206] at H
                 have c206b0 : (X3 == 3) = true := beq_iff_eq.mpr c206
                 have c206b1 : (X3 != 3) = false := bne_eq_false_iff_eq.mpr c206
                 clear c206
                 have H' := zM H
                 clear H
                 obtain ⟨Ao207, co207, eo207⟩ := Kd.R_slice HO275.out
                 subst eo207
                 have tk208 : True := trivial
                 have tk215 : True := trivial
                 have tk216 : True := trivial
                 go_wp2_with (first | ((with_reducible refine gate_callee (f := 15) rfl ?_); clear tk208; refine goL_ (some 77) Try.func15 #[.pointer (some ⟨gb266, 0, none⟩), .slice Ao207 y273.length co207] ?_; go_enter Try.func15, Try.ntmps15; have hnb209 := NB266_258.out; have hnc209 := NB258_266.out; have hnb210 := NB266_261.out; have hnc210 := NB261_266.out; have hnb211 := NB266_262.out; have hnc211 := NB262_266.out; have hnb212 := NB266_267.out; have hnc212 := NB267_266.out; have hcz213 := rf3_ BK266.out) | ((with_reducible refine gate_store (t := 3) (p := 48) rfl ?_); clear tk215; refine store_event (t := 3) (p := 48) (v := ?vo_w214) (w1 := (w69.setCell ⟨gb266, 1, none⟩ (.int .i64 4))) ?hg ?ho ?hn ?hr ?_; (case ho => rfl); (case hg => rfl); (case hn => rfl); (case hr => first | (go_simp; done) | (go_simp; rfl)); intro w214 hw; replace HOa : Aside0 (Kd.R k34 34 w214 w.heap.size (fun k_ => some k_ ≠ (u267002 : Value).ownBlock ∧ some k_ ≠ (.slice Ao207 y273.length co207 : Value).ownBlock ∧ k_ ≠ gb258) u267000 X2) := tR1_ hw HOa BK266 (fun _ h => ⟨h.1.1.1, h.1.2, h.1.1.2⟩); replace HOb : Aside0 (Kd.R k34 34 w214 w.heap.size (fun k_ => some k_ ≠ (u267000 : Value).ownBlock ∧ some k_ ≠ (.slice Ao207 y273.length co207 : Value).ownBlock ∧ k_ ≠ gb258) u267002 X4) := tR1_ hw HOb BK266 (fun _ h => ⟨h.1.1.1, h.1.2, h.1.1.2⟩); replace HOc : Aside0 (Kd.V (Kd.slice 34 k34) 27 w214 w.heap.size (fun k_ => some k_ ≠ (u267000 : Value).ownBlock ∧ some k_ ≠ (u267002 : Value).ownBlock ∧ some k_ ≠ (.slice Ao207 y273.length co207 : Value).ownBlock ∧ k_ ≠ gb258 ∧ k_ ≠ gb261 ∧ k_ ≠ gb262 ∧ k_ ≠ gb266 ∧ k_ ≠ gb267) u268004 X9) := tV1_ hw HOc (fun _ h => h.1.2.2.2.2.2.1) (fun _ h => ⟨h.1.1.1, h.1.1.2.1, h.1.2, h.1.1.2.2⟩); replace HO275 : Aside0 (Kd.R k34 34 w214 w.heap.size (fun k_ => some k_ ≠ (u267000 : Value).ownBlock ∧ some k_ ≠ (u267002 : Value).ownBlock ∧ k_ ≠ gb258) (.slice Ao207 y273.length co207) y273) := tR1_ hw HO275 BK266 (fun _ h => h.1); replace BK258 := bB1_ hw BK258 NB258_266; replace BK261 := bB1_ hw BK261 NB261_266; replace BK262 := bB1_ hw BK262 NB262_266; replace BK266 : Aside0 (w214.heap[gb266]? = some (.cells #[u267000, .int .i64 4, u267002] 61 (0, 0))) := bP1_ hw BK266 rfl; replace BK267 := bB1_ hw BK267 NB267_266; replace HB : Aside0 (Below w.heap.size w w214) := ⟨(by rw [hw]; exact bel_)⟩; clear hw) | (clear tk216; (first | go_ret | go_ret2 | go_ret3 | go_end0); with_reducible refine inl_back_ ?_))
                 go_meet
                 case rel => exact ⟨_, (X1), (4), (X4), (u267002), H', ⟨by have := HJ9.out; have := HK2.out; first | omega | exact Nat.le_refl _⟩, HO275, rm_ HOa (fun _ h => ⟨h.2.1, h.1, h.2.2⟩), rm_ HOb (fun _ h => ⟨h.2.1, h.1, h.2.2⟩), vm_ HOc (fun _ h => ⟨h.2.2.1, h.1, h.2.1, h.2.2.2⟩), ⟨blf_⟩, ⟨blf_⟩, ⟨blf_⟩, ⟨blf_⟩, ⟨blf_⟩, ⟨bel_⟩⟩
               as_aux_lemma =>
                rw [if_pos c176] at H
                have c176b0 : (X3 == 1) = true := beq_iff_eq.mpr c176
                have c176b1 : (X3 != 1) = false := bne_eq_false_iff_eq.mpr c176
                clear c176
                replace H := Option.bind_eq_some_iff.mp H
                obtain ⟨t284, A1770, H⟩ := H
                replace H : (if t284 = true then (ropewaylaw15_SnapRuns_t.j2 k2 (rd_L3 l2 x65_2) y273 l2 (l2.length : Int) x65_2 X2 4 X4 X5 X6 X7 X8 X9) else (ropewaylaw15_SnapRuns_t.j2 k2 (rd_L3 l2 x65_2) y273 l2 (l2.length : Int) x65_2 X2 2 X4 X5 X6 X7 X8 X9)) = some r := H
                have A177 := zM A1770
                clear A1770
                by_cases c178 : t284 = true
                rotate_left
                · as_aux_lemma =>
                   replace c178 := Bool.eq_false_iff.mpr c178
                   subst c178
                   have H1 : (ropewaylaw15_SnapRuns_t.j2 k2 (rd_L3 l2 x65_2) y273 l2 (l2.length : Int) x65_2 X2 2 X4 X5 X6 X7 X8 X9) = some r := by rw [if_neg (show ¬ (false = true) by decide)] at H; exact H
                   clear H
                   have H := H1
                   clear H1
                   have H' := zM H
                   clear H
                   obtain ⟨Ao193, co193, eo193⟩ := Kd.R_slice HO275.out
                   subst eo193
                   have tk194 : True := trivial
                   have tk201 : True := trivial
                   have tk204 : True := trivial
                   have tk205 : True := trivial
                   go_wp2_with (first | ((with_reducible refine gate_callee (f := 15) rfl ?_); clear tk194; refine goL_ (some 77) Try.func15 #[.pointer (some ⟨gb266, 0, none⟩), .slice Ao193 y273.length co193] ?_; go_enter Try.func15, Try.ntmps15; have hnb195 := NB266_258.out; have hnc195 := NB258_266.out; have hnb196 := NB266_261.out; have hnc196 := NB261_266.out; have hnb197 := NB266_262.out; have hnc197 := NB262_266.out; have hnb198 := NB266_267.out; have hnc198 := NB267_266.out; have hcz199 := rf3_ BK266.out) | ((with_reducible refine gate_store (t := 3) (p := 38) rfl ?_); clear tk201; refine store_event (t := 3) (p := 38) (v := ?vo_w200) (w1 := (w69.setCell ⟨gb266, 1, none⟩ (.int .i64 2))) ?hg ?ho ?hn ?hr ?_; (case ho => rfl); (case hg => rfl); (case hn => rfl); (case hr => first | (go_simp; done) | (go_simp; rfl)); intro w200 hw; replace HOa : Aside0 (Kd.R k34 34 w200 w.heap.size (fun k_ => some k_ ≠ (u267002 : Value).ownBlock ∧ some k_ ≠ (.slice Ao193 y273.length co193 : Value).ownBlock ∧ k_ ≠ gb258) u267000 X2) := tR1_ hw HOa BK266 (fun _ h => ⟨h.1.1.1, h.1.2, h.1.1.2⟩); replace HOb : Aside0 (Kd.R k34 34 w200 w.heap.size (fun k_ => some k_ ≠ (u267000 : Value).ownBlock ∧ some k_ ≠ (.slice Ao193 y273.length co193 : Value).ownBlock ∧ k_ ≠ gb258) u267002 X4) := tR1_ hw HOb BK266 (fun _ h => ⟨h.1.1.1, h.1.2, h.1.1.2⟩); replace HOc : Aside0 (Kd.V (Kd.slice 34 k34) 27 w200 w.heap.size (fun k_ => some k_ ≠ (u267000 : Value).ownBlock ∧ some k_ ≠ (u267002 : Value).ownBlock ∧ some k_ ≠ (.slice Ao193 y273.length co193 : Value).ownBlock ∧ k_ ≠ gb258 ∧ k_ ≠ gb261 ∧ k_ ≠ gb262 ∧ k_ ≠ gb266 ∧ k_ ≠ gb267) u268004 X9) := tV1_ hw HOc (fun _ h => h.1.2.2.2.2.2.1) (fun _ h => ⟨h.1.1.1, h.1.1.2.1, h.1.2, h.1.1.2.2⟩); replace HO275 : Aside0 (Kd.R k34 34 w200 w.heap.size (fun k_ => some k_ ≠ (u267000 : Value).ownBlock ∧ some k_ ≠ (u267002 : Value).ownBlock ∧ k_ ≠ gb258) (.slice Ao193 y273.length co193) y273) := tR1_ hw HO275 BK266 (fun _ h => h.1); replace BK258 := bB1_ hw BK258 NB258_266; replace BK261 := bB1_ hw BK261 NB261_266; replace BK262 := bB1_ hw BK262 NB262_266; replace BK266 : Aside0 (w200.heap[gb266]? = some (.cells #[u267000, .int .i64 2, u267002] 61 (0, 0))) := bP1_ hw BK266 rfl; replace BK267 := bB1_ hw BK267 NB267_266; replace HB : Aside0 (Below w.heap.size w w200) := ⟨(by rw [hw]; exact bel_)⟩; clear hw; obtain ⟨Ao202, co202, eo202⟩ := Kd.R_slice HOa.out; subst eo202; obtain ⟨Ao203, co203, eo203⟩ := Kd.R_slice HOb.out; subst eo203) | ((with_reducible refine gate_callee (f := 26) rfl ?_); clear tk204; refine goL_ (some 40) Try.func26 #[.pointer (some ⟨gb266, 0, none⟩)] ?_; (with_reducible refine (snap_Snap_update.calls gb266 Ao202 co202 X2 2 Ao203 co203 X4 false _ ?side1 ?side2 ?side3 ?side4 ?side5 A177.out).mono ?_); (case side1 => exact (Kd.R_reads' HOa.out).2.2); (case side2 => exact (Kd.R_reads' HOa.out).2.1); (case side3 => exact (Kd.R_reads' HOb.out).2.2); (case side4 => exact (Kd.R_reads' HOb.out).2.1); (case side5 => exact blf_); rintro e w' ⟨rfl, ⟨nd, rfl⟩⟩; refine ⟨_, rfl, ?_⟩) | (clear tk205; (first | go_ret | go_ret2 | go_ret3 | go_end0); with_reducible refine inl_back_ ?_))
                   go_meet
                   case rel => exact ⟨_, (X1), (2), (X4), (.slice Ao203 X4.length co203), H', ⟨by have := HJ9.out; have := HK2.out; first | omega | exact Nat.le_refl _⟩, HO275, rm_ HOa (fun _ h => ⟨h.2.1, h.1, h.2.2⟩), rm_ HOb (fun _ h => ⟨h.2.1, h.1, h.2.2⟩), vm_ HOc (fun _ h => ⟨h.2.2.1, h.1, h.2.1, h.2.2.2⟩), ⟨blf_⟩, ⟨blf_⟩, ⟨blf_⟩, ⟨blf_⟩, ⟨blf_⟩, ⟨bel_⟩⟩
                as_aux_lemma =>
                 subst c178
                 have H1 : (ropewaylaw15_SnapRuns_t.j2 k2 (rd_L3 l2 x65_2) y273 l2 (l2.length : Int) x65_2 X2 4 X4 X5 X6 X7 X8 X9) = some r := by rw [if_pos rfl] at H; exact H
                 clear H
                 have H := H1
                 clear H1
                 have H' := zM H
                 clear H
                 obtain ⟨Ao179, co179, eo179⟩ := Kd.R_slice HO275.out
                 subst eo179
                 have tk180 : True := trivial
                 have tk188 : True := trivial
                 have tk191 : True := trivial
                 have tk192 : True := trivial
                 go_wp2_with (first | ((with_reducible refine gate_callee (f := 15) rfl ?_); clear tk180; refine goL_ (some 77) Try.func15 #[.pointer (some ⟨gb266, 0, none⟩), .slice Ao179 y273.length co179] ?_; go_enter Try.func15, Try.ntmps15; have hnb181 := NB266_258.out; have hnc181 := NB258_266.out; have hnb182 := NB266_261.out; have hnc182 := NB261_266.out; have hnb183 := NB266_262.out; have hnc183 := NB262_266.out; have hnb184 := NB266_267.out; have hnc184 := NB267_266.out; have hcz185 := rf3_ BK266.out; obtain ⟨Ao186, co186, eo186⟩ := Kd.R_slice HOa.out; subst eo186; obtain ⟨Ao187, co187, eo187⟩ := Kd.R_slice HOb.out; subst eo187) | ((with_reducible refine gate_callee (f := 26) rfl ?_); clear tk188; refine goL_ (some 40) Try.func26 #[.pointer (some ⟨gb266, 0, none⟩)] ?_; (with_reducible refine (snap_Snap_update.calls gb266 Ao186 co186 X2 2 Ao187 co187 X4 true _ ?side1 ?side2 ?side3 ?side4 ?side5 A177.out).mono ?_); (case side1 => refine (Kd.R_reads' (e := 34) (base := w.heap.size) (ok := fun k_ => ((some k_ ≠ (.slice Ao187 X4.length co187 : Value).ownBlock ∧ k_ ≠ gb258) ∧ some k_ ≠ (.slice Ao179 y273.length co179 : Value).ownBlock)) (n := X2.length) (c := co186) ?_).2.2; exact (by (with_reducible repeat (first | apply Kd.R_alloc | apply Kd.R_drewN | apply Kd.R_drew)); exact (Kd.R_mono (Kd.R_far (p := ⟨gb266, 1, none⟩) (Kd.R_types HOa.out BK266.out (by decide)) (fun _ hk => hk.2) (.int .i64 2)) (fun _ h_ => h_.1)))); (case side2 => exact (Kd.R_reads' HOa.out).2.1); (case side3 => refine (Kd.R_reads' (e := 34) (base := w.heap.size) (ok := fun k_ => ((some k_ ≠ (.slice Ao186 X2.length co186 : Value).ownBlock ∧ k_ ≠ gb258) ∧ some k_ ≠ (.slice Ao179 y273.length co179 : Value).ownBlock)) (n := X4.length) (c := co187) ?_).2.2; exact (by (with_reducible repeat (first | apply Kd.R_alloc | apply Kd.R_drewN | apply Kd.R_drew)); exact (Kd.R_mono (Kd.R_far (p := ⟨gb266, 1, none⟩) (Kd.R_types HOb.out BK266.out (by decide)) (fun _ hk => hk.2) (.int .i64 2)) (fun _ h_ => h_.1)))); (case side4 => exact (Kd.R_reads' HOb.out).2.1); (case side5 => exact by (with_reducible repeat (first | refine zN ?_ _ | refine zD ?_ | refine zA ?_ _)); refine blk_put (cs := #[.slice Ao186 X2.length co186, .int .i64 X3, .slice Ao187 X4.length co187]) ?_ 1 _ rfl; (with_reducible repeat (first | refine zN ?_ _ | refine zD ?_ | refine zA ?_ _)); exact BK266.out); rintro e w' ⟨rfl, ⟨nd, rfl⟩⟩; refine ⟨_, rfl, ?_⟩; have hcy189 : (((w69.setCell ⟨gb266, 1, none⟩ (.int .i64 2)).drewN nd).setCell ⟨gb266, 1, none⟩ (.int .i64 4)).cell? ⟨gb266, 1, none⟩ = some (.int .i64 4) := (zL (show (((w69.setCell ⟨gb266, 1, none⟩ (.int .i64 2)).drewN nd).setCell ⟨gb266, 1, none⟩ (.int .i64 4)).heap[gb266]? = some (.cells #[.slice Ao186 X2.length co186, .int .i64 4, .slice Ao187 X4.length co187] 61 (0, 0)) from by (with_reducible repeat (first | refine zN ?_ _ | refine zD ?_ | refine zA ?_ _)); refine blk_put (cs := #[.slice Ao186 X2.length co186, .int .i64 2, .slice Ao187 X4.length co187]) ?_ 1 _ rfl; (with_reducible repeat (first | refine zN ?_ _ | refine zD ?_ | refine zA ?_ _)); refine blk_put (cs := #[.slice Ao186 X2.length co186, .int .i64 X3, .slice Ao187 X4.length co187]) ?_ 1 _ rfl; (with_reducible repeat (first | refine zN ?_ _ | refine zD ?_ | refine zA ?_ _)); exact BK266.out) 1).trans rfl) | ((with_reducible refine gate_store (t := 3) (p := 43) rfl ?_); clear tk191; refine store_event (t := 3) (p := 43) (v := ?vo_w190) (w1 := (((w69.setCell ⟨gb266, 1, none⟩ (.int .i64 2)).drewN nd).setCell ⟨gb266, 1, none⟩ (.int .i64 4))) ?hg ?ho ?hn ?hr ?_; (case ho => rfl); (case hg => rfl); (case hn => rfl); (case hr => first | (go_simp; done) | (go_simp; rfl)); intro w190 hw; replace HOa : Aside0 (Kd.R k34 34 w190 w.heap.size (fun k_ => some k_ ≠ (.slice Ao187 X4.length co187 : Value).ownBlock ∧ some k_ ≠ (.slice Ao179 y273.length co179 : Value).ownBlock ∧ k_ ≠ gb258) (.slice Ao186 X2.length co186) X2) := tR1d1_ hw HOa BK266 (fun _ h => ⟨h.1.1.1, h.1.2, h.1.1.2⟩); replace HOb : Aside0 (Kd.R k34 34 w190 w.heap.size (fun k_ => some k_ ≠ (.slice Ao186 X2.length co186 : Value).ownBlock ∧ some k_ ≠ (.slice Ao179 y273.length co179 : Value).ownBlock ∧ k_ ≠ gb258) (.slice Ao187 X4.length co187) X4) := tR1d1_ hw HOb BK266 (fun _ h => ⟨h.1.1.1, h.1.2, h.1.1.2⟩); replace HOc : Aside0 (Kd.V (Kd.slice 34 k34) 27 w190 w.heap.size (fun k_ => some k_ ≠ (.slice Ao186 X2.length co186 : Value).ownBlock ∧ some k_ ≠ (.slice Ao187 X4.length co187 : Value).ownBlock ∧ some k_ ≠ (.slice Ao179 y273.length co179 : Value).ownBlock ∧ k_ ≠ gb258 ∧ k_ ≠ gb261 ∧ k_ ≠ gb262 ∧ k_ ≠ gb266 ∧ k_ ≠ gb267) u268004 X9) := tV1d1_ hw HOc (fun _ h => h.1.2.2.2.2.2.1) (fun _ h => ⟨h.1.1.1, h.1.1.2.1, h.1.2, h.1.1.2.2⟩); replace HO275 : Aside0 (Kd.R k34 34 w190 w.heap.size (fun k_ => some k_ ≠ (.slice Ao186 X2.length co186 : Value).ownBlock ∧ some k_ ≠ (.slice Ao187 X4.length co187 : Value).ownBlock ∧ k_ ≠ gb258) (.slice Ao179 y273.length co179) y273) := tR1d1_ hw HO275 BK266 (fun _ h => h.1); replace BK258 := bB1d1_ hw BK258 NB258_266; replace BK261 := bB1d1_ hw BK261 NB261_266; replace BK262 := bB1d1_ hw BK262 NB262_266; replace BK266 : Aside0 (w190.heap[gb266]? = some (.cells #[.slice Ao186 X2.length co186, .int .i64 4, .slice Ao187 X4.length co187] 61 (0, 0))) := bP1d1_ hw BK266 rfl; replace BK267 := bB1d1_ hw BK267 NB267_266; replace HB : Aside0 (Below w.heap.size w w190) := ⟨(by rw [hw]; exact bel_)⟩; clear hw) | (clear tk192; (first | go_ret | go_ret2 | go_ret3 | go_end0); with_reducible refine inl_back_ ?_))
                 go_meet
                 case rel => exact ⟨_, (X1), (4), (X4), (.slice Ao187 X4.length co187), H', ⟨by have := HJ9.out; have := HK2.out; first | omega | exact Nat.le_refl _⟩, HO275, rm_ HOa (fun _ h => ⟨h.2.1, h.1, h.2.2⟩), rm_ HOb (fun _ h => ⟨h.2.1, h.1, h.2.2⟩), vm_ HOc (fun _ h => ⟨h.2.2.1, h.1, h.2.1, h.2.2.2⟩), ⟨blf_⟩, ⟨blf_⟩, ⟨blf_⟩, ⟨blf_⟩, ⟨blf_⟩, ⟨bel_⟩⟩
             as_aux_lemma =>
              rw [if_pos c124] at H
              have c124b0 : (X3 == 2) = true := beq_iff_eq.mpr c124
              have c124b1 : (X3 != 2) = false := bne_eq_false_iff_eq.mpr c124
              clear c124
              replace H := Option.bind_eq_some_iff.mp H
              obtain ⟨t280, A1250, H⟩ := H
              replace H : (if (y273.length : Int) = 0 then ((snap_Snap_update.f X2 (wrap64 (X3 + 1)) t280).bind fun t283 => (if t283 = true then (ropewaylaw15_SnapRuns_t.j2 k2 (rd_L3 l2 x65_2) y273 l2 (l2.length : Int) x65_2 X2 (wrap64 (X3 + 1)) t280 X5 X6 X7 X8 X9) else (ropewaylaw15_SnapRuns_t.j2 k2 (rd_L3 l2 x65_2) y273 l2 (l2.length : Int) x65_2 X2 4 t280 X5 X6 X7 X8 X9))) else (ropewaylaw15_SnapRuns_t.j2 k2 (rd_L3 l2 x65_2) y273 l2 (l2.length : Int) x65_2 X2 (wrap64 (X3 + 1)) t280 X5 X6 X7 X8 X9)) = some r := H
              have A125 := zM A1250
              clear A1250
              by_cases c126 : (y273.length : Int) = 0
              rotate_left
              · as_aux_lemma =>
                 rw [if_neg c126] at H
                 have c126b0 : ((y273.length : Int) == 0) = false := beq_eq_false_iff_ne.mpr c126
                 have c126b1 : ((y273.length : Int) != 0) = true := bne_iff_ne.mpr c126
                 have c126b2 : ¬ (y273 = []) := fun h_ => c126 (by rw [h_]; rfl)
                 have H' := zM H
                 clear H
                 obtain ⟨Ao162, co162, eo162⟩ := Kd.R_slice HO275.out
                 subst eo162
                 have tk163 : True := trivial
                 have tk170 : True := trivial
                 have tk174 : True := trivial
                 have tk175 : True := trivial
                 go_wp2_with (first | ((with_reducible refine gate_callee (f := 15) rfl ?_); clear tk163; refine goL_ (some 77) Try.func15 #[.pointer (some ⟨gb266, 0, none⟩), .slice Ao162 y273.length co162] ?_; go_enter Try.func15, Try.ntmps15; have hnb164 := NB266_258.out; have hnc164 := NB258_266.out; have hnb165 := NB266_261.out; have hnc165 := NB261_266.out; have hnb166 := NB266_262.out; have hnc166 := NB262_266.out; have hnb167 := NB266_267.out; have hnc167 := NB267_266.out; have hcz168 := rf3_ BK266.out) | ((with_reducible refine gate_callee (f := 25) rfl ?_); clear tk170; refine goL_ (some 13) Try.func25 #[.slice Ao162 y273.length co162] ?_; (with_reducible refine (api_Cell.calls _ _ y273 t280 _ ?side1 ?side2 A125.out).mono ?_); (case side1 => exact (Kd.R_reads' HO275.out).2.2); (case side2 => exact (Kd.R_reads' HO275.out).2.1); rintro e w169 ⟨v281, rfl, ho0, hb⟩; refine ⟨_, rfl, ?_⟩; replace HOc := zM (Kd.V_elder' (rv_ HOc) (Kd.R_base ho0) hb); have HO282 := zM (Kd.R_lower (Kd.R_newB (Kd.R_new' (Kd.R_new' (Kd.R_new' ho0 (Kd.R_lt (rl_ HOa))) (Kd.R_lt (rl_ HOb))) (Kd.R_lt (rl_ HO275))) (g := gb258) (o := .cells #[.int .i64 X0, .int .i64 a1_1, .int .i64 a1_2] 34 (0, 0)) blk_) (below_size bel_)); replace HOa := zM (Kd.R_elder' (rl_ HOa) (Kd.R_base ho0) hb); replace HOb := zM (Kd.R_elder' (rl_ HOb) (Kd.R_base ho0) hb); replace HO275 := zM (Kd.R_elder' (rl_ HO275) (Kd.R_base ho0) hb); replace BK258 := zM (bb_ BK258 hb); replace BK261 := zM (bb_ BK261 hb); replace BK262 := zM (bb_ BK262 hb); replace BK266 := zM (bb_ BK266 hb); replace BK267 := zM (bb_ BK267 hb); replace HB := zM (zB bel_ hb); (try clear hb); (try clear ho0); obtain ⟨Ao171, co171, eo171⟩ := Kd.R_slice HO282.out; subst eo171; have hcz172 := rf3_ BK266.out) | ((with_reducible refine gate_store (t := 3) (p := 22) rfl ?_); clear tk174; refine store_event (t := 3) (p := 22) (v := ?vo_w173) (w1 := ((w169.setCell ⟨gb266, 2, none⟩ (.slice Ao171 t280.length co171)).setCell ⟨gb266, 1, none⟩ (.int .i64 (wrap64 (X3 + 1))))) ?hg ?ho ?hn ?hr ?_; (case ho => rfl); (case hg => rfl); (case hn => rfl); (case hr => first | (go_simp; done) | (go_simp; rfl)); intro w173 hw; replace HOa : Aside0 (Kd.R k34 34 w173 w.heap.size (fun k_ => some k_ ≠ (u267002 : Value).ownBlock ∧ some k_ ≠ (.slice Ao162 y273.length co162 : Value).ownBlock ∧ some k_ ≠ (.slice Ao171 t280.length co171 : Value).ownBlock ∧ k_ ≠ gb258) u267000 X2) := tR2_ hw HOa BK266 (fun _ h => ⟨h.1.1.1.1, h.1.1.2, h.1.2, h.1.1.1.2⟩); replace HOb : Aside0 (Kd.R k34 34 w173 w.heap.size (fun k_ => some k_ ≠ (u267000 : Value).ownBlock ∧ some k_ ≠ (.slice Ao162 y273.length co162 : Value).ownBlock ∧ some k_ ≠ (.slice Ao171 t280.length co171 : Value).ownBlock ∧ k_ ≠ gb258) u267002 X4) := tR2_ hw HOb BK266 (fun _ h => ⟨h.1.1.1.1, h.1.1.2, h.1.2, h.1.1.1.2⟩); replace HOc : Aside0 (Kd.V (Kd.slice 34 k34) 27 w173 w.heap.size (fun k_ => some k_ ≠ (u267000 : Value).ownBlock ∧ some k_ ≠ (u267002 : Value).ownBlock ∧ some k_ ≠ (.slice Ao162 y273.length co162 : Value).ownBlock ∧ some k_ ≠ (.slice Ao171 t280.length co171 : Value).ownBlock ∧ k_ ≠ gb258 ∧ k_ ≠ gb261 ∧ k_ ≠ gb262 ∧ k_ ≠ gb266 ∧ k_ ≠ gb267) u268004 X9) := tV2_ hw HOc (fun _ h => h.1.1.2.2.2.2.2.1) (fun _ h => ⟨h.1.1.1.1, h.1.1.1.2.1, h.1.1.2, h.1.2, h.1.1.1.2.2⟩); replace HO275 : Aside0 (Kd.R k34 34 w173 w.heap.size (fun k_ => some k_ ≠ (u267000 : Value).ownBlock ∧ some k_ ≠ (u267002 : Value).ownBlock ∧ some k_ ≠ (.slice Ao171 t280.length co171 : Value).ownBlock ∧ k_ ≠ gb258) (.slice Ao162 y273.length co162) y273) := tR2_ hw HO275 BK266 (fun _ h => ⟨h.1.1.1, h.1.1.2.1, h.1.2, h.1.1.2.2⟩); replace HO282 : Aside0 (Kd.R k34 34 w173 w.heap.size (fun k_ => some k_ ≠ (u267000 : Value).ownBlock ∧ some k_ ≠ (u267002 : Value).ownBlock ∧ some k_ ≠ (.slice Ao162 y273.length co162 : Value).ownBlock ∧ k_ ≠ gb258) (.slice Ao171 t280.length co171) t280) := tR2_ hw HO282 BK266 (fun _ h => ⟨h.1.1.1.1.2, h.1.1.1.2, h.1.1.2, h.1.2⟩); replace BK258 := bB2_ hw BK258 NB258_266; replace BK261 := bB2_ hw BK261 NB261_266; replace BK262 := bB2_ hw BK262 NB262_266; replace BK266 : Aside0 (w173.heap[gb266]? = some (.cells #[u267000, .int .i64 (wrap64 (X3 + 1)), .slice Ao171 t280.length co171] 61 (0, 0))) := bP2_ hw BK266 rfl; replace BK267 := bB2_ hw BK267 NB267_266; replace HB : Aside0 (Below w.heap.size w w173) := ⟨(by rw [hw]; exact bel_)⟩; clear hw) | (clear tk175; (first | go_ret | go_ret2 | go_ret3 | go_end0); with_reducible refine inl_back_ ?_))
                 go_meet
                 case rel => exact ⟨_, (X1), (wrap64 (X3 + 1)), (t280), (.slice Ao171 t280.length co171), H', ⟨by have := HJ9.out; have := HK2.out; first | omega | exact Nat.le_refl _⟩, rm_ HO275 (fun _ h => ⟨h.1, h.2.2⟩), rm_ HOa (fun _ h => h.2), rm_ HO282 (fun _ h => ⟨h.2.2.1, h.1, h.2.2.2⟩), vm_ HOc (fun _ h => ⟨h.2.2.1, h.1, h.2.2.2⟩), ⟨blf_⟩, ⟨blf_⟩, ⟨blf_⟩, ⟨blf_⟩, ⟨blf_⟩, ⟨bel_⟩⟩
              as_aux_lemma =>
               rw [if_pos c126] at H
               have c126b0 : ((y273.length : Int) == 0) = true := beq_iff_eq.mpr c126
               have c126b1 : ((y273.length : Int) != 0) = false := bne_eq_false_iff_eq.mpr c126
               clear c126
               replace H := Option.bind_eq_some_iff.mp H
               obtain ⟨t283, A1270, H⟩ := H
               replace H : (if t283 = true then (ropewaylaw15_SnapRuns_t.j2 k2 (rd_L3 l2 x65_2) y273 l2 (l2.length : Int) x65_2 X2 (wrap64 (X3 + 1)) t280 X5 X6 X7 X8 X9) else (ropewaylaw15_SnapRuns_t.j2 k2 (rd_L3 l2 x65_2) y273 l2 (l2.length : Int) x65_2 X2 4 t280 X5 X6 X7 X8 X9)) = some r := H
               have A127 := zM A1270
               clear A1270
               by_cases c128 : t283 = true
               · subst c128
                 have H1 : (ropewaylaw15_SnapRuns_t.j2 k2 (rd_L3 l2 x65_2) y273 l2 (l2.length : Int) x65_2 X2 (wrap64 (X3 + 1)) t280 X5 X6 X7 X8 X9) = some r := by rw [if_pos rfl] at H; exact H
                 clear H
                 have H := H1
                 clear H1
                 have H' := zM H
                 clear H
                 obtain ⟨Ao129, co129, eo129⟩ := Kd.R_slice HO275.out
                 subst eo129
                 have tk130 : True := trivial
                 have tk137 : True := trivial
                 have tk141 : True := trivial
                 have tk143 : True := trivial
                 have tk144 : True := trivial
                 go_wp2_with (first | ((with_reducible refine gate_callee (f := 15) rfl ?_); clear tk130; refine goL_ (some 77) Try.func15 #[.pointer (some ⟨gb266, 0, none⟩), .slice Ao129 y273.length co129] ?_; go_enter Try.func15, Try.ntmps15; have hnb131 := NB266_258.out; have hnc131 := NB258_266.out; have hnb132 := NB266_261.out; have hnc132 := NB261_266.out; have hnb133 := NB266_262.out; have hnc133 := NB262_266.out; have hnb134 := NB266_267.out; have hnc134 := NB267_266.out; have hcz135 := rf3_ BK266.out) | ((with_reducible refine gate_callee (f := 25) rfl ?_); clear tk137; refine goL_ (some 13) Try.func25 #[.slice Ao129 y273.length co129] ?_; (with_reducible refine (api_Cell.calls _ _ y273 t280 _ ?side1 ?side2 A125.out).mono ?_); (case side1 => exact (Kd.R_reads' HO275.out).2.2); (case side2 => exact (Kd.R_reads' HO275.out).2.1); rintro e w136 ⟨v281, rfl, ho0, hb⟩; refine ⟨_, rfl, ?_⟩; replace HOc := zM (Kd.V_elder' (rv_ HOc) (Kd.R_base ho0) hb); have HO282 := zM (Kd.R_lower (Kd.R_newB (Kd.R_new' (Kd.R_new' (Kd.R_new' ho0 (Kd.R_lt (rl_ HOa))) (Kd.R_lt (rl_ HOb))) (Kd.R_lt (rl_ HO275))) (g := gb258) (o := .cells #[.int .i64 X0, .int .i64 a1_1, .int .i64 a1_2] 34 (0, 0)) blk_) (below_size bel_)); replace HOa := zM (Kd.R_elder' (rl_ HOa) (Kd.R_base ho0) hb); replace HOb := zM (Kd.R_elder' (rl_ HOb) (Kd.R_base ho0) hb); replace HO275 := zM (Kd.R_elder' (rl_ HO275) (Kd.R_base ho0) hb); replace BK258 := zM (bb_ BK258 hb); replace BK261 := zM (bb_ BK261 hb); replace BK262 := zM (bb_ BK262 hb); replace BK266 := zM (bb_ BK266 hb); replace BK267 := zM (bb_ BK267 hb); replace HB := zM (zB bel_ hb); (try clear hb); (try clear ho0); obtain ⟨Ao138, co138, eo138⟩ := Kd.R_slice HO282.out; subst eo138; have hcz139 := rf3_ BK266.out) | ((with_reducible refine gate_store (t := 3) (p := 22) rfl ?_); clear tk141; refine store_event (t := 3) (p := 22) (v := ?vo_w140) (w1 := ((w136.setCell ⟨gb266, 2, none⟩ (.slice Ao138 t280.length co138)).setCell ⟨gb266, 1, none⟩ (.int .i64 (wrap64 (X3 + 1))))) ?hg ?ho ?hn ?hr ?_; (case ho => rfl); (case hg => rfl); (case hn => rfl); (case hr => first | (go_simp; done) | (go_simp; rfl)); intro w140 hw; replace HOa : Aside0 (Kd.R k34 34 w140 w.heap.size (fun k_ => some k_ ≠ (u267002 : Value).ownBlock ∧ some k_ ≠ (.slice Ao129 y273.length co129 : Value).ownBlock ∧ some k_ ≠ (.slice Ao138 t280.length co138 : Value).ownBlock ∧ k_ ≠ gb258) u267000 X2) := tR2_ hw HOa BK266 (fun _ h => ⟨h.1.1.1.1, h.1.1.2, h.1.2, h.1.1.1.2⟩); replace HOb : Aside0 (Kd.R k34 34 w140 w.heap.size (fun k_ => some k_ ≠ (u267000 : Value).ownBlock ∧ some k_ ≠ (.slice Ao129 y273.length co129 : Value).ownBlock ∧ some k_ ≠ (.slice Ao138 t280.length co138 : Value).ownBlock ∧ k_ ≠ gb258) u267002 X4) := tR2_ hw HOb BK266 (fun _ h => ⟨h.1.1.1.1, h.1.1.2, h.1.2, h.1.1.1.2⟩); replace HOc : Aside0 (Kd.V (Kd.slice 34 k34) 27 w140 w.heap.size (fun k_ => some k_ ≠ (u267000 : Value).ownBlock ∧ some k_ ≠ (u267002 : Value).ownBlock ∧ some k_ ≠ (.slice Ao129 y273.length co129 : Value).ownBlock ∧ some k_ ≠ (.slice Ao138 t280.length co138 : Value).ownBlock ∧ k_ ≠ gb258 ∧ k_ ≠ gb261 ∧ k_ ≠ gb262 ∧ k_ ≠ gb266 ∧ k_ ≠ gb267) u268004 X9) := tV2_ hw HOc (fun _ h => h.1.1.2.2.2.2.2.1) (fun _ h => ⟨h.1.1.1.1, h.1.1.1.2.1, h.1.1.2, h.1.2, h.1.1.1.2.2⟩); replace HO275 : Aside0 (Kd.R k34 34 w140 w.heap.size (fun k_ => some k_ ≠ (u267000 : Value).ownBlock ∧ some k_ ≠ (u267002 : Value).ownBlock ∧ some k_ ≠ (.slice Ao138 t280.length co138 : Value).ownBlock ∧ k_ ≠ gb258) (.slice Ao129 y273.length co129) y273) := tR2_ hw HO275 BK266 (fun _ h => ⟨h.1.1.1, h.1.1.2.1, h.1.2, h.1.1.2.2⟩); replace HO282 : Aside0 (Kd.R k34 34 w140 w.heap.size (fun k_ => some k_ ≠ (u267000 : Value).ownBlock ∧ some k_ ≠ (u267002 : Value).ownBlock ∧ some k_ ≠ (.slice Ao129 y273.length co129 : Value).ownBlock ∧ k_ ≠ gb258) (.slice Ao138 t280.length co138) t280) := tR2_ hw HO282 BK266 (fun _ h => ⟨h.1.1.1.1.2, h.1.1.1.2, h.1.1.2, h.1.2⟩); replace BK258 := bB2_ hw BK258 NB258_266; replace BK261 := bB2_ hw BK261 NB261_266; replace BK262 := bB2_ hw BK262 NB262_266; replace BK266 : Aside0 (w140.heap[gb266]? = some (.cells #[u267000, .int .i64 (wrap64 (X3 + 1)), .slice Ao138 t280.length co138] 61 (0, 0))) := bP2_ hw BK266 rfl; replace BK267 := bB2_ hw BK267 NB267_266; replace HB : Aside0 (Below w.heap.size w w140) := ⟨(by rw [hw]; exact bel_)⟩; clear hw; obtain ⟨Ao142, co142, eo142⟩ := Kd.R_slice HOa.out; subst eo142) | (go_at_call 26; (with_reducible refine (snap_Snap_update.calls gb266 Ao142 co142 X2 (wrap64 (X3 + 1)) Ao138 co138 t280 true _ ?side1 ?side2 ?side3 ?side4 ?side5 A127.out).mono ?_); (case side1 => exact (Kd.R_reads' HOa.out).2.2); (case side2 => exact (Kd.R_reads' HOa.out).2.1); (case side3 => exact (Kd.R_reads' HO282.out).2.2); (case side4 => exact (Kd.R_reads' HO282.out).2.1); (case side5 => exact blf_); clear tk143; rintro e w' ⟨rfl, ⟨nd, rfl⟩⟩) | (clear tk144; (first | go_ret | go_ret2 | go_ret3 | go_end0); with_reducible refine inl_back_ ?_))
                 go_meet
                 case rel => exact ⟨_, (X1), (wrap64 (X3 + 1)), (t280), (.slice Ao138 t280.length co138), H', ⟨by have := HJ9.out; have := HK2.out; first | omega | exact Nat.le_refl _⟩, rm_ HO275 (fun _ h => ⟨h.1, h.2.2⟩), rm_ HOa (fun _ h => h.2), rm_ HO282 (fun _ h => ⟨h.2.2.1, h.1, h.2.2.2⟩), vm_ HOc (fun _ h => ⟨h.2.2.1, h.1, h.2.2.2⟩), ⟨blf_⟩, ⟨blf_⟩, ⟨blf_⟩, ⟨blf_⟩, ⟨blf_⟩, ⟨bel_⟩⟩
               replace c128 := Bool.eq_false_iff.mpr c128
               subst c128
               have H1 : (ropewaylaw15_SnapRuns_t.j2 k2 (rd_L3 l2 x65_2) y273 l2 (l2.length : Int) x65_2 X2 4 t280 X5 X6 X7 X8 X9) = some r := by rw [if_neg (show ¬ (false = true) by decide)] at H; exact H
               clear H
               have H := H1
               clear H1
               have H' := zM H
               clear H
               obtain ⟨Ao145, co145, eo145⟩ := Kd.R_slice HO275.out
               subst eo145
               have tk146 : True := trivial
               have tk153 : True := trivial
               have tk157 : True := trivial
               have tk160 : True := trivial
               have tk161 : True := trivial
               go_wp2_with (first | ((with_reducible refine gate_callee (f := 15) rfl ?_); clear tk146; refine goL_ (some 77) Try.func15 #[.pointer (some ⟨gb266, 0, none⟩), .slice Ao145 y273.length co145] ?_; go_enter Try.func15, Try.ntmps15; have hnb147 := NB266_258.out; have hnc147 := NB258_266.out; have hnb148 := NB266_261.out; have hnc148 := NB261_266.out; have hnb149 := NB266_262.out; have hnc149 := NB262_266.out; have hnb150 := NB266_267.out; have hnc150 := NB267_266.out; have hcz151 := rf3_ BK266.out) | ((with_reducible refine gate_callee (f := 25) rfl ?_); clear tk153; refine goL_ (some 13) Try.func25 #[.slice Ao145 y273.length co145] ?_; (with_reducible refine (api_Cell.calls _ _ y273 t280 _ ?side1 ?side2 A125.out).mono ?_); (case side1 => exact (Kd.R_reads' HO275.out).2.2); (case side2 => exact (Kd.R_reads' HO275.out).2.1); rintro e w152 ⟨v281, rfl, ho0, hb⟩; refine ⟨_, rfl, ?_⟩; replace HOc := zM (Kd.V_elder' (rv_ HOc) (Kd.R_base ho0) hb); have HO282 := zM (Kd.R_lower (Kd.R_newB (Kd.R_new' (Kd.R_new' (Kd.R_new' ho0 (Kd.R_lt (rl_ HOa))) (Kd.R_lt (rl_ HOb))) (Kd.R_lt (rl_ HO275))) (g := gb258) (o := .cells #[.int .i64 X0, .int .i64 a1_1, .int .i64 a1_2] 34 (0, 0)) blk_) (below_size bel_)); replace HOa := zM (Kd.R_elder' (rl_ HOa) (Kd.R_base ho0) hb); replace HOb := zM (Kd.R_elder' (rl_ HOb) (Kd.R_base ho0) hb); replace HO275 := zM (Kd.R_elder' (rl_ HO275) (Kd.R_base ho0) hb); replace BK258 := zM (bb_ BK258 hb); replace BK261 := zM (bb_ BK261 hb); replace BK262 := zM (bb_ BK262 hb); replace BK266 := zM (bb_ BK266 hb); replace BK267 := zM (bb_ BK267 hb); replace HB := zM (zB bel_ hb); (try clear hb); (try clear ho0); obtain ⟨Ao154, co154, eo154⟩ := Kd.R_slice HO282.out; subst eo154; have hcz155 := rf3_ BK266.out; obtain ⟨Ao156, co156, eo156⟩ := Kd.R_slice HOa.out; subst eo156) | (go_at_call 26; (with_reducible refine (snap_Snap_update.calls gb266 Ao156 co156 X2 (wrap64 (X3 + 1)) Ao154 co154 t280 false _ ?side1 ?side2 ?side3 ?side4 ?side5 A127.out).mono ?_); (case side1 => refine (Kd.R_reads' (e := 34) (base := w.heap.size) (ok := fun k_ => (((some k_ ≠ (u267002 : Value).ownBlock ∧ k_ ≠ gb258) ∧ some k_ ≠ (.slice Ao145 y273.length co145 : Value).ownBlock) ∧ some k_ ≠ (.slice Ao154 t280.length co154 : Value).ownBlock)) (n := X2.length) (c := co156) ?_).2.2; exact (by (with_reducible repeat (first | apply Kd.R_alloc | apply Kd.R_drewN | apply Kd.R_drew)); exact (Kd.R_mono (Kd.R_far (p := ⟨gb266, 1, none⟩) (Kd.R_far (p := ⟨gb266, 2, none⟩) (Kd.R_types HOa.out BK266.out (by decide)) (fun _ hk => hk.2) (.slice Ao154 t280.length co154)) (fun _ hk => hk.2) (.int .i64 (wrap64 (X3 + 1)))) (fun _ h_ => h_.1)))); (case side2 => exact (Kd.R_reads' HOa.out).2.1); (case side3 => refine (Kd.R_reads' (e := 34) (base := w.heap.size) (ok := fun k_ => ((((True ∧ some k_ ≠ (.slice Ao156 X2.length co156 : Value).ownBlock) ∧ some k_ ≠ (u267002 : Value).ownBlock) ∧ some k_ ≠ (.slice Ao145 y273.length co145 : Value).ownBlock) ∧ k_ ≠ gb258)) (n := t280.length) (c := co154) ?_).2.2; exact (by (with_reducible repeat (first | apply Kd.R_alloc | apply Kd.R_drewN | apply Kd.R_drew)); exact (Kd.R_mono (Kd.R_far (p := ⟨gb266, 1, none⟩) (Kd.R_far (p := ⟨gb266, 2, none⟩) (Kd.R_types HO282.out BK266.out (by decide)) (fun _ hk => hk.2) (.slice Ao154 t280.length co154)) (fun _ hk => hk.2) (.int .i64 (wrap64 (X3 + 1)))) (fun _ h_ => h_.1)))); (case side4 => exact (Kd.R_reads' HO282.out).2.1); (case side5 => exact by (with_reducible repeat (first | refine zN ?_ _ | refine zD ?_ | refine zA ?_ _)); refine blk_put (cs := #[.slice Ao156 X2.length co156, .int .i64 X3, .slice Ao154 t280.length co154]) ?_ 1 _ rfl; (with_reducible repeat (first | refine zN ?_ _ | refine zD ?_ | refine zA ?_ _)); refine blk_put (cs := #[.slice Ao156 X2.length co156, .int .i64 X3, u267002]) ?_ 2 _ rfl; (with_reducible repeat (first | refine zN ?_ _ | refine zD ?_ | refine zA ?_ _)); exact BK266.out); clear tk157; rintro e w' ⟨rfl, ⟨nd, rfl⟩⟩; have hcy158 : ((((w152.setCell ⟨gb266, 2, none⟩ (.slice Ao154 t280.length co154)).setCell ⟨gb266, 1, none⟩ (.int .i64 (wrap64 (X3 + 1)))).drewN nd).setCell ⟨gb266, 1, none⟩ (.int .i64 4)).cell? ⟨gb266, 1, none⟩ = some (.int .i64 4) := (zL (show ((((w152.setCell ⟨gb266, 2, none⟩ (.slice Ao154 t280.length co154)).setCell ⟨gb266, 1, none⟩ (.int .i64 (wrap64 (X3 + 1)))).drewN nd).setCell ⟨gb266, 1, none⟩ (.int .i64 4)).heap[gb266]? = some (.cells #[.slice Ao156 X2.length co156, .int .i64 4, .slice Ao154 t280.length co154] 61 (0, 0)) from by (with_reducible repeat (first | refine zN ?_ _ | refine zD ?_ | refine zA ?_ _)); refine blk_put (cs := #[.slice Ao156 X2.length co156, .int .i64 (wrap64 (X3 + 1)), .slice Ao154 t280.length co154]) ?_ 1 _ rfl; (with_reducible repeat (first | refine zN ?_ _ | refine zD ?_ | refine zA ?_ _)); refine blk_put (cs := #[.slice Ao156 X2.length co156, .int .i64 X3, .slice Ao154 t280.length co154]) ?_ 1 _ rfl; (with_reducible repeat (first | refine zN ?_ _ | refine zD ?_ | refine zA ?_ _)); refine blk_put (cs := #[.slice Ao156 X2.length co156, .int .i64 X3, u267002]) ?_ 2 _ rfl; (with_reducible repeat (first | refine zN ?_ _ | refine zD ?_ | refine zA ?_ _)); exact BK266.out) 1).trans rfl) | ((with_reducible refine gate_store (t := 3) (p := 33) rfl ?_); clear tk160; refine store_event (t := 3) (p := 33) (v := ?vo_w159) (w1 := ((((w152.setCell ⟨gb266, 2, none⟩ (.slice Ao154 t280.length co154)).setCell ⟨gb266, 1, none⟩ (.int .i64 (wrap64 (X3 + 1)))).drewN nd).setCell ⟨gb266, 1, none⟩ (.int .i64 4))) ?hg ?ho ?hn ?hr ?_; (case ho => rfl); (case hg => rfl); (case hn => rfl); (case hr => first | (go_simp; done) | (go_simp; rfl)); intro w159 hw; replace HOa : Aside0 (Kd.R k34 34 w159 w.heap.size (fun k_ => some k_ ≠ (u267002 : Value).ownBlock ∧ some k_ ≠ (.slice Ao145 y273.length co145 : Value).ownBlock ∧ some k_ ≠ (.slice Ao154 t280.length co154 : Value).ownBlock ∧ k_ ≠ gb258) (.slice Ao156 X2.length co156) X2) := tR2d1_ hw HOa BK266 (fun _ h => ⟨h.1.1.1.1, h.1.1.2, h.1.2, h.1.1.1.2⟩); replace HOb : Aside0 (Kd.R k34 34 w159 w.heap.size (fun k_ => some k_ ≠ (.slice Ao156 X2.length co156 : Value).ownBlock ∧ some k_ ≠ (.slice Ao145 y273.length co145 : Value).ownBlock ∧ some k_ ≠ (.slice Ao154 t280.length co154 : Value).ownBlock ∧ k_ ≠ gb258) u267002 X4) := tR2d1_ hw HOb BK266 (fun _ h => ⟨h.1.1.1.1, h.1.1.2, h.1.2, h.1.1.1.2⟩); replace HOc : Aside0 (Kd.V (Kd.slice 34 k34) 27 w159 w.heap.size (fun k_ => some k_ ≠ (.slice Ao156 X2.length co156 : Value).ownBlock ∧ some k_ ≠ (u267002 : Value).ownBlock ∧ some k_ ≠ (.slice Ao145 y273.length co145 : Value).ownBlock ∧ some k_ ≠ (.slice Ao154 t280.length co154 : Value).ownBlock ∧ k_ ≠ gb258 ∧ k_ ≠ gb261 ∧ k_ ≠ gb262 ∧ k_ ≠ gb266 ∧ k_ ≠ gb267) u268004 X9) := tV2d1_ hw HOc (fun _ h => h.1.1.2.2.2.2.2.1) (fun _ h => ⟨h.1.1.1.1, h.1.1.1.2.1, h.1.1.2, h.1.2, h.1.1.1.2.2⟩); replace HO275 : Aside0 (Kd.R k34 34 w159 w.heap.size (fun k_ => some k_ ≠ (.slice Ao156 X2.length co156 : Value).ownBlock ∧ some k_ ≠ (u267002 : Value).ownBlock ∧ some k_ ≠ (.slice Ao154 t280.length co154 : Value).ownBlock ∧ k_ ≠ gb258) (.slice Ao145 y273.length co145) y273) := tR2d1_ hw HO275 BK266 (fun _ h => ⟨h.1.1.1, h.1.1.2.1, h.1.2, h.1.1.2.2⟩); replace HO282 : Aside0 (Kd.R k34 34 w159 w.heap.size (fun k_ => some k_ ≠ (.slice Ao156 X2.length co156 : Value).ownBlock ∧ some k_ ≠ (u267002 : Value).ownBlock ∧ some k_ ≠ (.slice Ao145 y273.length co145 : Value).ownBlock ∧ k_ ≠ gb258) (.slice Ao154 t280.length co154) t280) := tR2d1_ hw HO282 BK266 (fun _ h => ⟨h.1.1.1.1.2, h.1.1.1.2, h.1.1.2, h.1.2⟩); replace BK258 := bB2d1_ hw BK258 NB258_266; replace BK261 := bB2d1_ hw BK261 NB261_266; replace BK262 := bB2d1_ hw BK262 NB262_266; replace BK266 : Aside0 (w159.heap[gb266]? = some (.cells #[.slice Ao156 X2.length co156, .int .i64 4, .slice Ao154 t280.length co154] 61 (0, 0))) := bP2d1_ hw BK266 rfl; replace BK267 := bB2d1_ hw BK267 NB267_266; replace HB : Aside0 (Below w.heap.size w w159) := ⟨(by rw [hw]; exact bel_)⟩; clear hw) | (clear tk161; (first | go_ret | go_ret2 | go_ret3 | go_end0); with_reducible refine inl_back_ ?_))
               go_meet
               case rel => exact ⟨_, (X1), (4), (t280), (.slice Ao154 t280.length co154), H', ⟨by have := HJ9.out; have := HK2.out; first | omega | exact Nat.le_refl _⟩, rm_ HO275 (fun _ h => ⟨h.1, h.2.2⟩), rm_ HOa (fun _ h => h.2), rm_ HO282 (fun _ h => ⟨h.2.2.1, h.1, h.2.2.2⟩), vm_ HOc (fun _ h => ⟨h.2.2.1, h.1, h.2.2.2⟩), ⟨blf_⟩, ⟨blf_⟩, ⟨blf_⟩, ⟨blf_⟩, ⟨blf_⟩, ⟨bel_⟩⟩
            case rest => as_aux_lemma =>
             clear HC71
             try clear c2
             try clear c7
             try clear c11
             try clear c11b0
             try clear c11b1
             try clear c12
             try clear c12b0
             try clear c14
             try clear c14b0
             try clear c17
             try clear c25
             try clear c58
             try clear c58b0
             try clear c59
             try clear c59b0
             try clear c60
             try clear c60b0
             try clear c62
             try clear c62b0
             try clear c62b1
             try clear c65
             try clear c72
             try clear c72b0
             try clear c72b1
             try clear c74
             try clear c74b0
             try clear c74b1
             try clear c74b2
             try clear c76
             try clear c124
             try clear c124b0
             try clear c124b1
             try clear c126
             try clear c126b0
             try clear c126b1
             try clear c126b2
             try clear c128
             try clear c176
             try clear c176b0
             try clear c176b1
             try clear c178
             try clear c206
             try clear c206b0
             try clear c206b1
             try clear hcz103
             try clear hcz116
             try clear hcz120
             try clear hcz135
             try clear hcz139
             try clear hcz13
             try clear hcz151
             try clear hcz155
             try clear hcz15
             try clear hcz168
             try clear hcz172
             try clear hcz185
             try clear hcz18
             try clear hcz199
             try clear hcz213
             try clear hcz21
             try clear hcz223
             try clear hcz22
             try clear hcz31
             try clear hcz37
             try clear hcz48
             try clear hcz55
             try clear hcz83
             try clear hcz87
             try clear hcz99
             try clear hx268_0
             try clear p268
             try clear q268
             obtain ⟨kq, Xf, Xg, Xh, u267002, HA, HJ70, HO_11, HOa, HOb, HOc, BK258, BK261, BK262, BK266, BK267, HB⟩ := hcut
             cases kq with
             | zero => exact absurd HA.out (by simp [ropewaylaw15_SnapRuns_t.j2])
             | succ kj70 =>
              have H := HA.out
              clear HA
              simp only [ropewaylaw15_SnapRuns_t.j2] at H
              replace H := Option.bind_eq_some_iff.mp H
              obtain ⟨⟨t285, t286, t287, t288, t289⟩, A2250, H⟩ := H
              replace H : (ropewaylaw15_SnapRuns_t.l1 kj70 y273 l2 (l2.length : Int) x65_2 (y273.length : Int) 0 X2 Xg Xh t285 t286 t287 t288 t289) = some r := H
              have A225 := zM A2250
              clear A2250
              have hnb226 := NB267_258.out
              have hnc226 := NB258_267.out
              have hnb227 := NB267_261.out
              have hnc227 := NB261_267.out
              have hnb228 := NB267_262.out
              have hnc228 := NB262_267.out
              have hnb229 := NB267_266.out
              have hnc229 := NB266_267.out
              have hcz230 := rf5_ BK267.out
              obtain ⟨Ao231, co231, eo231⟩ := Kd.V_slice HOc.out
              subst eo231
              have tk233 : True := trivial
              have tk237 : True := trivial
              go_upto_region 17 with (first | ((with_reducible refine gate_callee (f := 16) rfl ?_); clear tk233; refine goL_ (some 80) Try.func16 #[.agg #[.bool X5, .int .i64 X6, .int .i64 X7, .int .i64 X8, .slice Ao231 X9.length co231], .slice A268_0 (rd_L3 l2 x65_2).length c268_0] ?_; (with_reducible refine (ropewayref15_Got.calls X5 X6 X7 X8 (fun k_ => (some k_ ≠ (v274 : Value).ownBlock ∧ (some k_ ≠ (u267000 : Value).ownBlock ∧ (some k_ ≠ (u267002 : Value).ownBlock ∧ (k_ ≠ gb258 ∧ (k_ ≠ gb261 ∧ (k_ ≠ gb262 ∧ (k_ ≠ gb266 ∧ k_ ≠ gb267)))))))) _ _ X9 _ _ (rd_L3 l2 x65_2) t285 t286 t287 t288 t289 _ ?side1 ?side2 ?side3 A225.out).mono ?_); (case side1 => exact HOc.out); (case side2 => repeat (first | exact (Kd.C_below HR268_0.out HB.out) | (with_reducible refine Kd.C_alloc ?_ _) | (with_reducible refine Kd.C_drewN ?_ _) | (with_reducible refine Kd.C_drew ?_))); (case side3 => exact HC268_0.out); rintro e w232 ⟨v290, rfl, ho0, hb⟩; refine ⟨_, rfl, ?_⟩; replace HOc := zM (Kd.V_below (rv_ HOc) hb); have HO291 := zM (Kd.V_lower (Kd.V_mono (ok' := fun k_ => some k_ ≠ (v274 : Value).ownBlock ∧ some k_ ≠ (u267000 : Value).ownBlock ∧ some k_ ≠ (u267002 : Value).ownBlock ∧ k_ ≠ gb258 ∧ k_ ≠ gb261 ∧ k_ ≠ gb262 ∧ k_ ≠ gb266 ∧ k_ ≠ gb267) ho0 (fun k_ hk_ => ⟨Or.elim hk_ (fun hs_ => hs_.1) (fun hn_ => (Kd.fresh' (Kd.R_lt (rl_ HO_11)) k_ hn_)), Or.elim hk_ (fun hs_ => hs_.2.1) (fun hn_ => (Kd.fresh' (Kd.R_lt (rl_ HOa)) k_ hn_)), Or.elim hk_ (fun hs_ => hs_.2.2.1) (fun hn_ => (Kd.fresh' (Kd.R_lt (rl_ HOb)) k_ hn_)), Or.elim hk_ (fun hs_ => hs_.2.2.2.1) (fun hn_ => (Kd.freshB (g := gb258) (o := .cells #[.int .i64 X0, .int .i64 a1_1, .int .i64 a1_2] 34 (0, 0)) blk_ k_ hn_)), Or.elim hk_ (fun hs_ => hs_.2.2.2.2.1) (fun hn_ => (Kd.freshB (g := gb261) (o := .cells #[.slice none 0 0, .int .i64 Xf, .slice none 0 0] 61 (0, 0)) blk_ k_ hn_)), Or.elim hk_ (fun hs_ => hs_.2.2.2.2.2.1) (fun hn_ => (Kd.freshB (g := gb262) (o := .cells #[.int .i64 a1_1, .int .i64 a1_2] 26 (0, 0)) blk_ k_ hn_)), Or.elim hk_ (fun hs_ => hs_.2.2.2.2.2.2.1) (fun hn_ => (Kd.freshB (g := gb266) (o := .cells #[u267000, .int .i64 Xg, u267002] 61 (0, 0)) blk_ k_ hn_)), Or.elim hk_ (fun hs_ => hs_.2.2.2.2.2.2.2) (fun hn_ => (Kd.freshB (g := gb267) (o := .cells #[.bool X5, .int .i64 X6, .int .i64 X7, .int .i64 X8, .slice Ao231 X9.length co231] 38 (0, 0)) blk_ k_ hn_))⟩)) (below_size bel_)); replace HO_11 := zM (Kd.R_below (rl_ HO_11) hb); replace HOa := zM (Kd.R_below (rl_ HOa) hb); replace HOb := zM (Kd.R_below (rl_ HOb) hb); replace BK258 := zM (bb_ BK258 hb); replace BK261 := zM (bb_ BK261 hb); replace BK262 := zM (bb_ BK262 hb); replace BK266 := zM (bb_ BK266 hb); replace BK267 := zM (bb_ BK267 hb); replace HB := zM (zB bel_ hb); (try clear hb); (try clear ho0); have hcz234 := rf5_ BK267.out; obtain ⟨Ao235, co235, eo235⟩ := Kd.V_slice HO291.out; subst eo235) | ((with_reducible refine gate_store (t := 38) (p := 8) rfl ?_); clear tk237; refine store_event (t := 38) (p := 8) (v := ?vo_w236) (w1 := (((((w232.setCell ⟨gb267, 0, none⟩ (.bool t285)).setCell ⟨gb267, 1, none⟩ (.int .i64 t286)).setCell ⟨gb267, 2, none⟩ (.int .i64 t287)).setCell ⟨gb267, 3, none⟩ (.int .i64 t288)).setCell ⟨gb267, 4, none⟩ (.slice Ao235 t289.length co235))) ?hg ?ho ?hn ?hr ?_; (case ho => rfl); (case hg => rfl); (case hn => rfl); (case hr => first | (go_simp; done) | (go_simp; rfl)); intro w236 hw; replace HO_11 : Aside0 (Kd.R k34 34 w236 w.heap.size (fun k_ => some k_ ≠ (u267000 : Value).ownBlock ∧ some k_ ≠ (u267002 : Value).ownBlock ∧ k_ ≠ gb258) v274 y273) := tR5_ hw HO_11 BK267 (fun _ h => h.1); replace HOa : Aside0 (Kd.R k34 34 w236 w.heap.size (fun k_ => some k_ ≠ (v274 : Value).ownBlock ∧ some k_ ≠ (u267002 : Value).ownBlock ∧ k_ ≠ gb258) u267000 X2) := tR5_ hw HOa BK267 (fun _ h => h.1); replace HOb : Aside0 (Kd.R k34 34 w236 w.heap.size (fun k_ => some k_ ≠ (v274 : Value).ownBlock ∧ some k_ ≠ (u267000 : Value).ownBlock ∧ k_ ≠ gb258) u267002 Xh) := tR5_ hw HOb BK267 (fun _ h => h.1); replace HOc : Aside0 (Kd.V (Kd.slice 34 k34) 27 w236 w.heap.size (fun k_ => some k_ ≠ (v274 : Value).ownBlock ∧ some k_ ≠ (u267000 : Value).ownBlock ∧ some k_ ≠ (u267002 : Value).ownBlock ∧ k_ ≠ gb258 ∧ k_ ≠ gb261 ∧ k_ ≠ gb262 ∧ k_ ≠ gb266 ∧ k_ ≠ gb267) (.slice Ao231 X9.length co231) X9) := tV5_ hw HOc (fun _ h => h.2.2.2.2.2.2.2) (fun _ h => h.1); replace HO291 : Aside0 (Kd.V (Kd.slice 34 k34) 27 w236 w.heap.size (fun k_ => some k_ ≠ (v274 : Value).ownBlock ∧ some k_ ≠ (u267000 : Value).ownBlock ∧ some k_ ≠ (u267002 : Value).ownBlock ∧ k_ ≠ gb258 ∧ k_ ≠ gb261 ∧ k_ ≠ gb262 ∧ k_ ≠ gb266 ∧ k_ ≠ gb267) (.slice Ao235 t289.length co235) t289) := tV5_ hw HO291 (fun _ h => h.2.2.2.2.2.2.2) (fun _ h => h.1); replace BK258 := bB5_ hw BK258 NB258_267; replace BK261 := bB5_ hw BK261 NB261_267; replace BK262 := bB5_ hw BK262 NB262_267; replace BK266 := bB5_ hw BK266 NB266_267; replace BK267 : Aside0 (w236.heap[gb267]? = some (.cells #[.bool t285, .int .i64 t286, .int .i64 t287, .int .i64 t288, .slice Ao235 t289.length co235] 38 (0, 0))) := bP5_ hw BK267 rfl; replace HB : Aside0 (Below w.heap.size w w236) := ⟨(by rw [hw]; exact bel_)⟩; clear hw))
              try clear hcz234
              have H' := zM H
              clear H
              obtain ⟨Ao238, co238, eo238⟩ := Kd.R_slice HO_11.out
              subst eo238
              go_wp2
              go_loopg [83] kj70 (fun kq v83 w' => ∃ (x11_4 : List (S34)) (x83_4 : Int) (Xc : Int), v83 = .int .i64 x83_4 ∧ Aside0 (ropewaylaw15_SnapRuns_t.l1 kq x11_4 l2 (l2.length : Int) x65_2 (y273.length : Int) x83_4 X2 Xg Xh t285 t286 t287 t288 t289 = some r) ∧ Aside0 (kq ≤ kj70) ∧ Aside0 (Kd.R k34 34 w' w.heap.size (fun k_ => some k_ ≠ (u267000 : Value).ownBlock ∧ some k_ ≠ (u267002 : Value).ownBlock ∧ k_ ≠ gb258) (.slice Ao238 y273.length co238) x11_4) ∧ Aside0 (Kd.R k34 34 w' w.heap.size (fun k_ => some k_ ≠ ((.slice Ao238 y273.length co238) : Value).ownBlock ∧ some k_ ≠ (u267002 : Value).ownBlock ∧ k_ ≠ gb258) u267000 X2) ∧ Aside0 (Kd.R k34 34 w' w.heap.size (fun k_ => some k_ ≠ ((.slice Ao238 y273.length co238) : Value).ownBlock ∧ some k_ ≠ (u267000 : Value).ownBlock ∧ k_ ≠ gb258) u267002 Xh) ∧ Aside0 (Kd.V (Kd.slice 34 k34) 27 w' w.heap.size (fun k_ => some k_ ≠ ((.slice Ao238 y273.length co238) : Value).ownBlock ∧ some k_ ≠ (u267000 : Value).ownBlock ∧ some k_ ≠ (u267002 : Value).ownBlock ∧ k_ ≠ gb258 ∧ k_ ≠ gb261 ∧ k_ ≠ gb262 ∧ k_ ≠ gb266 ∧ k_ ≠ gb267) (.slice Ao235 t289.length co235) t289) ∧ Aside0 (w'.heap[gb258]? = some (.cells #[.int .i64 Xc, .int .i64 a1_1, .int .i64 a1_2] 34 (0, 0))) ∧ Aside0 (w'.heap[gb261]? = some (.cells #[(.slice none 0 0), .int .i64 Xf, (.slice none 0 0)] 61 (0, 0))) ∧ Aside0 (w'.heap[gb262]? = some (.cells #[.int .i64 a1_1, .int .i64 a1_2] 26 (0, 0))) ∧ Aside0 (w'.heap[gb266]? = some (.cells #[u267000, .int .i64 Xg, u267002] 61 (0, 0))) ∧ Aside0 (w'.heap[gb267]? = some (.cells #[.bool t285, .int .i64 t286, .int .i64 t287, .int .i64 t288, (.slice Ao235 t289.length co235)] 38 (0, 0))) ∧ Aside0 (Below w.heap.size w w'))
              case atStart => exact ⟨(y273), (0), (X0), (by first | rfl | (simp; done) | (simp [*]; done) | (simp; grind)), H', ⟨Nat.le_refl _⟩, HO_11, HOa, HOb, HO291, ⟨blf_⟩, ⟨blf_⟩, ⟨blf_⟩, ⟨blf_⟩, ⟨blf_⟩, ⟨bel_⟩⟩
              case round => as_aux_lemma =>
               clear H'
               try clear c2
               try clear c7
               try clear c11
               try clear c11b0
               try clear c11b1
               try clear c12
               try clear c12b0
               try clear c14
               try clear c14b0
               try clear c17
               try clear c25
               try clear c58
               try clear c58b0
               try clear c59
               try clear c59b0
               try clear c60
               try clear c60b0
               try clear c62
               try clear c62b0
               try clear c62b1
               try clear c65
               try clear c72
               try clear c72b0
               try clear c72b1
               try clear c74
               try clear c74b0
               try clear c74b1
               try clear c74b2
               try clear c76
               try clear c124
               try clear c124b0
               try clear c124b1
               try clear c126
               try clear c126b0
               try clear c126b1
               try clear c126b2
               try clear c128
               try clear c176
               try clear c176b0
               try clear c176b1
               try clear c178
               try clear c206
               try clear c206b0
               try clear c206b1
               try clear hcz103
               try clear hcz116
               try clear hcz120
               try clear hcz135
               try clear hcz139
               try clear hcz13
               try clear hcz151
               try clear hcz155
               try clear hcz15
               try clear hcz168
               try clear hcz172
               try clear hcz185
               try clear hcz18
               try clear hcz199
               try clear hcz213
               try clear hcz21
               try clear hcz223
               try clear hcz22
               try clear hcz230
               try clear hcz234
               try clear hcz31
               try clear hcz37
               try clear hcz48
               try clear hcz55
               try clear hcz83
               try clear hcz87
               try clear hcz99
               try clear hx268_0
               try clear p268
               try clear q268
               obtain ⟨x11_4, x83_4, Xc, rfl, HA, HK4, HO_11, HOa, HOb, HOc, BK258, BK261, BK262, BK266, BK267, HB⟩ := hrel
               have hl11_4 := (Kd.R_reads' HO_11.out).1
               rw [hl11_4] at HO_11
               (try simp only [hl11_4])
               (try simp only [hl11_4] at BK258)
               (try simp only [hl11_4] at BK261)
               (try simp only [hl11_4] at BK262)
               (try simp only [hl11_4] at BK266)
               (try simp only [hl11_4] at BK267)
               (try simp only [hl11_4] at HOa)
               (try simp only [hl11_4] at HOb)
               (try simp only [hl11_4] at HOc)
               cases gk with
               | zero => exact absurd HA.out (by simp [ropewaylaw15_SnapRuns_t.l1])
               | succ k4 =>
                have H := HA.out
                clear HA
                simp only [ropewaylaw15_SnapRuns_t.l1] at H
                by_cases c239 : x83_4 < (y273.length : Int)
                ·
                 rw [if_pos c239] at H
                 have c239b0 : decide (x83_4 < (y273.length : Int)) = true := decide_eq_true c239
                 clear c239
                 by_cases c240 : 0 ≤ x83_4
                 rotate_left
                 · rw [if_neg c240] at H
                   exact absurd H (by simp)
                 as_aux_lemma =>
                  rw [if_pos c240] at H
                  have c240b0 : decide (0 ≤ x83_4) = true := decide_eq_true c240
                  clear c240
                  by_cases c241 : x83_4 < (x11_4.length : Int)
                  rotate_left
                  · rw [if_neg c241] at H
                    exact absurd H (by simp)
                  as_aux_lemma =>
                   rw [if_pos c241] at H
                   have c241b0 : decide (x83_4 < (x11_4.length : Int)) = true := decide_eq_true c241
                   clear c241
                   obtain ⟨y292, hy292⟩ : ∃ y_ : List (S34), y_ = (x11_4.set (x83_4 : Int).toNat (⟨77, (⟨(rd_T34 x11_4 x83_4).f1.f0, (rd_T34 x11_4 x83_4).f1.f1⟩ : S26)⟩ : S34)) := ⟨_, rfl⟩
                   replace H : (ropewaylaw15_SnapRuns_t.l1 k4 y292 l2 (l2.length : Int) x65_2 (y273.length : Int) (wrap64 (x83_4 + 1)) X2 Xg Xh t285 t286 t287 t288 t289) = some r := by first | (rw [hy292]; with_reducible exact H) | (have H2_ := (Option.bind_some _ _).symm.trans H; rw [hy292]; with_reducible exact H2_) | (have H2_ := (Option.bind_some _ _).symm.trans H; with_reducible exact H2_) | with_reducible exact H | (rw [hy292]; exact H) | exact H
                   have Ny292 := zM hy292
                   clear hy292
                   have p242 : 0 ≤ (x83_4 : Int) := of_decide_eq_true (by first | (with_reducible assumption) | assumption)
                   have q242 : (x83_4 : Int) < ((x11_4.length : Int) : Int) := of_decide_eq_true (by first | (with_reducible assumption) | assumption)
                   obtain ⟨go242, co242, eo242, gb242, gl242, cl242, HG242⟩ := Kd.R_form HO_11.out (by omega)
                   (first | cases eo242 | (injection eo242 with ea_ en_ ec_; (first | subst ea_ | (injection ea_ with ea_; subst ea_)); subst ec_; clear en_))
                   have GB242 := zM gb242
                   have GG242 := zM HG242
                   clear gb242 gl242 HG242
                   obtain ⟨ce242, hcl242, hM242, hcc242, hfr242⟩ := Kd.R_elem HO_11.out z34 (x83_4 : Int) p242 q242
                   obtain rfl := k34_openM hM242
                   have hx242_0 : wr.cell? ⟨go242, (x83_4 : Int).toNat * 3, none⟩ = some (.int .i64 ((rd_T34 x11_4 x83_4).f0)) := hcc242 0 _ rfl
                   have hx242_1 : wr.cell? ⟨go242, (x83_4 : Int).toNat * 3 + 1, none⟩ = some (.int .i64 ((rd_T34 x11_4 x83_4).f1.f0)) := hcc242 1 _ rfl
                   have hx242_2 : wr.cell? ⟨go242, (x83_4 : Int).toNat * 3 + 2, none⟩ = some (.int .i64 ((rd_T34 x11_4 x83_4).f1.f1)) := hcc242 2 _ rfl
                   have hf242_0 : wr.frozen? ⟨go242, (x83_4 : Int).toNat * 3, none⟩ = false := hfr242 0
                   have hf242_1 : wr.frozen? ⟨go242, (x83_4 : Int).toNat * 3 + 1, none⟩ = false := hfr242 1
                   have hf242_2 : wr.frozen? ⟨go242, (x83_4 : Int).toNat * 3 + 2, none⟩ = false := hfr242 2
                   clear hcl242 hcc242 hfr242 hM242
                   replace p242 := eq_true p242
                   replace q242 := eq_true q242
                   have HX243 := zM (show Kd.R k34 34 wr w.heap.size (fun k_ => some k_ ≠ (u267000 : Value).ownBlock ∧ some k_ ≠ (u267002 : Value).ownBlock ∧ k_ ≠ gb258) (.slice (some ⟨go242, 0, none⟩) x11_4.length co238) x11_4 from (rl_ HO_11))
                   obtain ⟨ce243, hcl243, hM243, hcc243, hfr243⟩ := Kd.R_elem HX243.out z34 (x83_4 : Int) (of_decide_eq_true (by first | (with_reducible assumption) | assumption)) (by have h_ : (x83_4 : Int) < ((x11_4.length : Int) : Int) := of_decide_eq_true (by first | (with_reducible assumption) | assumption); first | exact h_ | (have e_ := (Kd.R_reads' HO_11.out).1; omega) | simpa using h_)
                   obtain rfl := k34_openM hM243
                   have HP243 := Kd.R_seg HX243.out (x83_4 : Int) (of_decide_eq_true (by first | (with_reducible assumption) | assumption)) (by have h_ : (x83_4 : Int) < ((x11_4.length : Int) : Int) := of_decide_eq_true (by first | (with_reducible assumption) | assumption); first | exact h_ | (have e_ := (Kd.R_reads' HO_11.out).1; omega) | simpa using h_) (seg := [.int .i64 77]) (j := 0) hcl243 hcc243 (show 1 ≤ 3 from by decide) (x' := (⟨77, (⟨(rd_T34 x11_4 x83_4).f1.f0, (rd_T34 x11_4 x83_4).f1.f1⟩ : S26)⟩ : S34)) (k34_mkM _ _ _ (⟨77, (⟨(rd_T34 x11_4 x83_4).f1.f0, (rd_T34 x11_4 x83_4).f1.f1⟩ : S26)⟩ : S34) ) (fun _ hk => hk)
                   have hx243_0 := hcc243 0 _ rfl
                   (try simp only [show (k34).sz = 3 from rfl, Nat.mul_one, Nat.add_zero] at hx243_0)
                   have hf243_0 := hfr243 0
                   (try simp only [show (k34).sz = 3 from rfl, Nat.mul_one, Nat.add_zero] at hf243_0)
                   clear hcl243 hcc243 hfr243 hM243
                   have tk245 : True := trivial
                   go_upto_region 21 with (first | ((with_reducible refine gate_store (t := 3) (p := 89) rfl ?_); clear tk245; refine store_event (t := 3) (p := 89) (v := ?vo_w244) (w1 := (wr.setCell ⟨go242, (x83_4 : Int).toNat * 3, none⟩ (.int .i64 77))) ?hg ?ho ?hn ?hr ?_; (case ho => rfl); (case hg => rfl); (case hn => rfl); (case hr => first | (go_simp; done) | (go_simp; rfl)); intro w244 hw; have hg : wr.grownBy w244 (some go242) := (by rw [hw]; exact HP243.2); have hp_ : Kd.R k34 34 w244 w.heap.size (fun k_ => some k_ ≠ (u267000 : Value).ownBlock ∧ some k_ ≠ (u267002 : Value).ownBlock ∧ k_ ≠ gb258) (.slice (some ⟨go242, 0, none⟩) x11_4.length co238) y292 := (by rw [hw, Ny292.out]; exact HP243.1); clear HP243; replace HOa := zM (Kd.R_after (v := (.slice (some ⟨go242, 0, none⟩) x11_4.length co238)) (v1 := (.slice (some ⟨go242, 0, none⟩) x11_4.length co238)) (ok := (fun k_ => some k_ ≠ (u267002 : Value).ownBlock ∧ k_ ≠ gb258)) (by (with_reducible repeat (first | apply Kd.R_alloc | apply Kd.R_drewN | apply Kd.R_drew)); exact Kd.R_mono HOa.out (fun _ h => ⟨h.2, h.1⟩)) hg (.inl rfl)); replace HOb := zM (Kd.R_after (v := (.slice (some ⟨go242, 0, none⟩) x11_4.length co238)) (v1 := (.slice (some ⟨go242, 0, none⟩) x11_4.length co238)) (ok := (fun k_ => some k_ ≠ (u267000 : Value).ownBlock ∧ k_ ≠ gb258)) (by (with_reducible repeat (first | apply Kd.R_alloc | apply Kd.R_drewN | apply Kd.R_drew)); exact Kd.R_mono HOb.out (fun _ h => ⟨h.2, h.1⟩)) hg (.inl rfl)); replace HOc := zM (Kd.V_afterv (v := (.slice (some ⟨go242, 0, none⟩) x11_4.length co238)) (v1 := (.slice (some ⟨go242, 0, none⟩) x11_4.length co238)) (ok := (fun k_ => some k_ ≠ (u267000 : Value).ownBlock ∧ some k_ ≠ (u267002 : Value).ownBlock ∧ k_ ≠ gb258 ∧ k_ ≠ gb261 ∧ k_ ≠ gb262 ∧ k_ ≠ gb266 ∧ k_ ≠ gb267)) (by (with_reducible repeat (first | apply Kd.V_alloc | apply Kd.V_drewN | apply Kd.V_drew)); exact Kd.V_mono HOc.out (fun _ h => ⟨h.2, h.1⟩)) hg (.inl rfl)); replace BK258 := (bG_ BK258 hg (Kd.R_away HO_11.out (fun _ hk => hk.2.2))); replace BK261 := (bG_ BK261 hg (Kd.R_ne HO_11.out BK261.out (by decide))); replace BK262 := (bG_ BK262 hg (Kd.R_ne HO_11.out BK262.out (by decide))); replace BK266 := (bG_ BK266 hg (Kd.R_ne HO_11.out BK266.out (by decide))); replace BK267 := (bG_ BK267 hg (Kd.R_ne HO_11.out BK267.out (by decide))); replace HO_11 := zM (hp_); replace HB := zM ((by rw [hw]; exact below_set (HB.out) GB242.out : Below w.heap.size w w244)); clear hg hw hp_))
                   have H' := zM H
                   clear H
                   go_wp2
                   (try simp only [← hl11_4])
                   go_roundg k4
                   case measure => have := HJ9.out; have := HK2.out; have := HJ70.out; have := HK4.out; omega
                   case rel => exact ⟨(y292), (wrap64 (x83_4 + 1)), (Xc), (by first | rfl | (simp; done) | (simp [*]; done) | (simp; grind)), H', ⟨by have := HJ9.out; have := HK2.out; have := HJ70.out; have := HK4.out; omega⟩, ⟨by (try simp only [hl11_4]); exact HO_11.out⟩, ⟨by (try simp only [hl11_4]); exact Kd.R_mono HOa.out (fun _ h => ⟨h.2, h.1⟩)⟩, ⟨by (try simp only [hl11_4]); exact Kd.R_mono HOb.out (fun _ h => ⟨h.2, h.1⟩)⟩, ⟨by (try simp only [hl11_4]); exact Kd.V_mono HOc.out (fun _ h => ⟨h.2, h.1⟩)⟩, ⟨by (try simp only [hl11_4]); exact BK258.out⟩, ⟨by (try simp only [hl11_4]); exact BK261.out⟩, ⟨by (try simp only [hl11_4]); exact BK262.out⟩, ⟨by (try simp only [hl11_4]); exact BK266.out⟩, ⟨by (try simp only [hl11_4]); exact BK267.out⟩, ⟨bel_⟩⟩
                rw [if_neg c239] at H
                have c239b0 : decide (x83_4 < (y273.length : Int)) = false := decide_eq_false c239
                try have c239b9 : decide (x83_4 < (x11_4.length : Int)) = false := by rw [← hl11_4]; exact c239b0
                clear c239
                have HC246 := zM H
                clear H
                go_upto_region 22 with (fail)
                (try simp only [Act.put, zS, zZ, zC])
                go_cut [13, 14, 15] (fun v13 v14 v15 wc => ∃ (kq : Nat) (x13_245 : Int) (x14_245 : List (S34)) (x15_245 : Bool) (Xi : Int) (Xj : Int), v13 = .int .i64 x13_245 ∧ v15 = .bool x15_245 ∧ Aside0 (ropewaylaw15_SnapRuns_t.j4 kq x13_245 x14_245 x15_245 l2 (l2.length : Int) x65_2 X2 Xj Xh t285 t286 t287 t288 t289 = some r) ∧ Aside0 (kq ≤ k4) ∧ Aside0 (Kd.R k34 34 wc w.heap.size (fun k_ => some k_ ≠ (u267000 : Value).ownBlock ∧ some k_ ≠ (u267002 : Value).ownBlock ∧ k_ ≠ gb258) v14 x14_245) ∧ Aside0 (Kd.R k34 34 wc w.heap.size (fun k_ => some k_ ≠ (v14 : Value).ownBlock ∧ some k_ ≠ (u267002 : Value).ownBlock ∧ k_ ≠ gb258) u267000 X2) ∧ Aside0 (Kd.R k34 34 wc w.heap.size (fun k_ => some k_ ≠ (v14 : Value).ownBlock ∧ some k_ ≠ (u267000 : Value).ownBlock ∧ k_ ≠ gb258) u267002 Xh) ∧ Aside0 (Kd.V (Kd.slice 34 k34) 27 wc w.heap.size (fun k_ => some k_ ≠ (v14 : Value).ownBlock ∧ some k_ ≠ (u267000 : Value).ownBlock ∧ some k_ ≠ (u267002 : Value).ownBlock ∧ k_ ≠ gb258 ∧ k_ ≠ gb261 ∧ k_ ≠ gb262 ∧ k_ ≠ gb266 ∧ k_ ≠ gb267) (.slice Ao235 t289.length co235) t289) ∧ Aside0 (wc.heap[gb258]? = some (.cells #[.int .i64 Xc, .int .i64 a1_1, .int .i64 a1_2] 34 (0, 0))) ∧ Aside0 (wc.heap[gb261]? = some (.cells #[(.slice none 0 0), .int .i64 Xi, (.slice none 0 0)] 61 (0, 0))) ∧ Aside0 (wc.heap[gb262]? = some (.cells #[.int .i64 a1_1, .int .i64 a1_2] 26 (0, 0))) ∧ Aside0 (wc.heap[gb266]? = some (.cells #[u267000, .int .i64 Xj, u267002] 61 (0, 0))) ∧ Aside0 (wc.heap[gb267]? = some (.cells #[.bool t285, .int .i64 t286, .int .i64 t287, .int .i64 t288, (.slice Ao235 t289.length co235)] 38 (0, 0))) ∧ Aside0 (Below w.heap.size w wc))
                case first => as_aux_lemma =>
                 have H := HC246.out
                 clear HC246
                 by_cases c247 : Xg = 4
                 · rw [if_pos c247] at H
                   have c247b0 : (Xg == 4) = true := beq_iff_eq.mpr c247
                   have c247b1 : (Xg != 4) = false := bne_eq_false_iff_eq.mpr c247
                   clear c247
                   (first | rw [c247b0] | (simp only [i64_w, i32_w]; rw [c247b0]) | skip)
                   have H' := zM H
                   clear H
                   have tk248 : True := trivial
                   have tk254 : True := trivial
                   go_wp2_with (first | ((with_reducible refine gate_callee (f := 9) rfl ?_); clear tk248; refine goL_ (some 93) Try.func9 #[.pointer (some ⟨gb266, 0, none⟩)] ?_; go_enter Try.func9, Try.ntmps9; have hnb249 := NB266_258.out; have hnc249 := NB258_266.out; have hnb250 := NB266_261.out; have hnc250 := NB261_266.out; have hnb251 := NB266_262.out; have hnc251 := NB262_266.out; have hnb252 := NB266_267.out; have hnc252 := NB267_266.out; have hcz253 := rf3_ BK266.out) | (clear tk254; (first | go_ret | go_ret2 | go_ret3 | go_end0); with_reducible refine inl_back_ ?_))
                   go_meet
                   case rel => exact ⟨_, (0), (([] : List (S34))), (false), (Xf), (Xg), (by first | rfl | (simp; done) | (simp [*]; done) | (simp; grind)), (by first | rfl | (simp; done) | (simp [*]; done) | (simp; grind)), H', ⟨by have := HJ9.out; have := HK2.out; have := HJ70.out; have := HK4.out; first | omega | exact Nat.le_refl _⟩, ⟨by (try simp only [hl11_4]); first | exact Kd.R_nil _ _ _ _ _ | exact Kd.N_nil _ _ _ _ _ | exact Kd.V_nil _ _ _ _ _ | exact Kd.Q_nil _ _ _ _ _ | exact Kd.S_nil _ _ _ _ _⟩, ⟨by (try simp only [hl11_4]); exact Kd.R_mono HOa.out (fun _ h => ⟨(by simp [Value.ownBlock]), h.2⟩)⟩, ⟨by (try simp only [hl11_4]); exact Kd.R_mono HOb.out (fun _ h => ⟨(by simp [Value.ownBlock]), h.2⟩)⟩, ⟨by (try simp only [hl11_4]); exact Kd.V_mono HOc.out (fun _ h => ⟨(by simp [Value.ownBlock]), h.2⟩)⟩, ⟨by (try simp only [hl11_4]); exact BK258.out⟩, ⟨by (try simp only [hl11_4]); exact BK261.out⟩, ⟨by (try simp only [hl11_4]); exact BK262.out⟩, ⟨by (try simp only [hl11_4]); exact BK266.out⟩, ⟨by (try simp only [hl11_4]); exact BK267.out⟩, ⟨bel_⟩⟩
                 rw [if_neg c247] at H
                 have c247b0 : (Xg == 4) = false := beq_eq_false_iff_ne.mpr c247
                 have c247b1 : (Xg != 4) = true := bne_iff_ne.mpr c247
                 (first | rw [c247b0] | (simp only [i64_w, i32_w]; rw [c247b0]) | skip)
                 by_cases c255 : Xg = 0
                 · rw [if_pos c255] at H
                   have c255b0 : (Xg == 0) = true := beq_iff_eq.mpr c255
                   have c255b1 : (Xg != 0) = false := bne_eq_false_iff_eq.mpr c255
                   clear c255
                   have H' := zM H
                   clear H
                   have tk256 : True := trivial
                   have tk262 : True := trivial
                   go_wp2_with (first | ((with_reducible refine gate_callee (f := 9) rfl ?_); clear tk256; refine goL_ (some 93) Try.func9 #[.pointer (some ⟨gb266, 0, none⟩)] ?_; go_enter Try.func9, Try.ntmps9; have hnb257 := NB266_258.out; have hnc257 := NB258_266.out; have hnb258 := NB266_261.out; have hnc258 := NB261_266.out; have hnb259 := NB266_262.out; have hnc259 := NB262_266.out; have hnb260 := NB266_267.out; have hnc260 := NB267_266.out; have hcz261 := rf3_ BK266.out) | (clear tk262; (first | go_ret | go_ret2 | go_ret3 | go_end0); with_reducible refine inl_back_ ?_))
                   go_meet
                   case rel => exact ⟨_, (0), (([] : List (S34))), (true), (Xf), (Xg), (by first | rfl | (simp; done) | (simp [*]; done) | (simp; grind)), (by first | rfl | (simp; done) | (simp [*]; done) | (simp; grind)), H', ⟨by have := HJ9.out; have := HK2.out; have := HJ70.out; have := HK4.out; first | omega | exact Nat.le_refl _⟩, ⟨by (try simp only [hl11_4]); first | exact Kd.R_nil _ _ _ _ _ | exact Kd.N_nil _ _ _ _ _ | exact Kd.V_nil _ _ _ _ _ | exact Kd.Q_nil _ _ _ _ _ | exact Kd.S_nil _ _ _ _ _⟩, ⟨by (try simp only [hl11_4]); exact Kd.R_mono HOa.out (fun _ h => ⟨(by simp [Value.ownBlock]), h.2⟩)⟩, ⟨by (try simp only [hl11_4]); exact Kd.R_mono HOb.out (fun _ h => ⟨(by simp [Value.ownBlock]), h.2⟩)⟩, ⟨by (try simp only [hl11_4]); exact Kd.V_mono HOc.out (fun _ h => ⟨(by simp [Value.ownBlock]), h.2⟩)⟩, ⟨by (try simp only [hl11_4]); exact BK258.out⟩, ⟨by (try simp only [hl11_4]); exact BK261.out⟩, ⟨by (try simp only [hl11_4]); exact BK262.out⟩, ⟨by (try simp only [hl11_4]); exact BK266.out⟩, ⟨by (try simp only [hl11_4]); exact BK267.out⟩, ⟨bel_⟩⟩
                 rw [if_neg c255] at H
                 have c255b0 : (Xg == 0) = false := beq_eq_false_iff_ne.mpr c255
                 have c255b1 : (Xg != 0) = true := bne_iff_ne.mpr c255
                 by_cases c263 : Xg = 2
                 · rw [if_pos c263] at H
                   have c263b0 : (Xg == 2) = true := beq_iff_eq.mpr c263
                   have c263b1 : (Xg != 2) = false := bne_eq_false_iff_eq.mpr c263
                   clear c263
                   have H' := zM H
                   clear H
                   have tk264 : True := trivial
                   have tk270 : True := trivial
                   go_wp2_with (first | ((with_reducible refine gate_callee (f := 9) rfl ?_); clear tk264; refine goL_ (some 93) Try.func9 #[.pointer (some ⟨gb266, 0, none⟩)] ?_; go_enter Try.func9, Try.ntmps9; have hnb265 := NB266_258.out; have hnc265 := NB258_266.out; have hnb266 := NB266_261.out; have hnc266 := NB261_266.out; have hnb267 := NB266_262.out; have hnc267 := NB262_266.out; have hnb268 := NB266_267.out; have hnc268 := NB267_266.out; have hcz269 := rf3_ BK266.out) | (clear tk270; (first | go_ret | go_ret2 | go_ret3 | go_end0); with_reducible refine inl_back_ ?_))
                   go_meet
                   case rel => exact ⟨_, (0), (([] : List (S34))), (true), (Xf), (Xg), (by first | rfl | (simp; done) | (simp [*]; done) | (simp; grind)), (by first | rfl | (simp; done) | (simp [*]; done) | (simp; grind)), H', ⟨by have := HJ9.out; have := HK2.out; have := HJ70.out; have := HK4.out; first | omega | exact Nat.le_refl _⟩, ⟨by (try simp only [hl11_4]); first | exact Kd.R_nil _ _ _ _ _ | exact Kd.N_nil _ _ _ _ _ | exact Kd.V_nil _ _ _ _ _ | exact Kd.Q_nil _ _ _ _ _ | exact Kd.S_nil _ _ _ _ _⟩, ⟨by (try simp only [hl11_4]); exact Kd.R_mono HOa.out (fun _ h => ⟨(by simp [Value.ownBlock]), h.2⟩)⟩, ⟨by (try simp only [hl11_4]); exact Kd.R_mono HOb.out (fun _ h => ⟨(by simp [Value.ownBlock]), h.2⟩)⟩, ⟨by (try simp only [hl11_4]); exact Kd.V_mono HOc.out (fun _ h => ⟨(by simp [Value.ownBlock]), h.2⟩)⟩, ⟨by (try simp only [hl11_4]); exact BK258.out⟩, ⟨by (try simp only [hl11_4]); exact BK261.out⟩, ⟨by (try simp only [hl11_4]); exact BK262.out⟩, ⟨by (try simp only [hl11_4]); exact BK266.out⟩, ⟨by (try simp only [hl11_4]); exact BK267.out⟩, ⟨bel_⟩⟩
                 rw [if_neg c263] at H
                 have c263b0 : (Xg == 2) = false := beq_eq_false_iff_ne.mpr c263
                 have c263b1 : (Xg != 2) = true := bne_iff_ne.mpr c263
                 replace H := Option.bind_eq_some_iff.mp H
                 obtain ⟨t293, A2710, H⟩ := H
                 replace H : (if t293 = true then ((api_Cell.f X2).bind fun t294 => (ropewaylaw15_SnapRuns_t.j4 k4 1 t294 true l2 (l2.length : Int) x65_2 X2 Xg Xh t285 t286 t287 t288 t289)) else ((api_Cell.f Xh).bind fun t297 => (ropewaylaw15_SnapRuns_t.j4 k4 1 t297 true l2 (l2.length : Int) x65_2 X2 Xg Xh t285 t286 t287 t288 t289))) = some r := H
                 have A271 := zM A2710
                 clear A2710
                 by_cases c272 : t293 = true
                 · subst c272
                   have H1 : ((api_Cell.f X2).bind fun t294 => (ropewaylaw15_SnapRuns_t.j4 k4 1 t294 true l2 (l2.length : Int) x65_2 X2 Xg Xh t285 t286 t287 t288 t289)) = some r := by rw [if_pos rfl] at H; exact H
                   clear H
                   have H := H1
                   clear H1
                   replace H := Option.bind_eq_some_iff.mp H
                   obtain ⟨t294, A2730, H⟩ := H
                   replace H : (ropewaylaw15_SnapRuns_t.j4 k4 1 t294 true l2 (l2.length : Int) x65_2 X2 Xg Xh t285 t286 t287 t288 t289) = some r := H
                   have A273 := zM A2730
                   clear A2730
                   have H' := zM H
                   clear H
                   have tk274 : True := trivial
                   have tk282 : True := trivial
                   have tk284 : True := trivial
                   have tk285 : True := trivial
                   go_wp2_with (first | ((with_reducible refine gate_callee (f := 9) rfl ?_); clear tk274; refine goL_ (some 93) Try.func9 #[.pointer (some ⟨gb266, 0, none⟩)] ?_; go_enter Try.func9, Try.ntmps9; have hnb275 := NB266_258.out; have hnc275 := NB258_266.out; have hnb276 := NB266_261.out; have hnc276 := NB261_266.out; have hnb277 := NB266_262.out; have hnc277 := NB262_266.out; have hnb278 := NB266_267.out; have hnc278 := NB267_266.out; have hcz279 := rf3_ BK266.out; obtain ⟨Ao280, co280, eo280⟩ := Kd.R_slice HOa.out; subst eo280; obtain ⟨Ao281, co281, eo281⟩ := Kd.R_slice HOb.out; subst eo281) | ((with_reducible refine gate_callee (f := 11) rfl ?_); clear tk282; refine goL_ (some 24) Try.func11 #[.pointer (some ⟨gb266, 0, none⟩)] ?_; (with_reducible refine (snap_Snap_Own.calls gb266 Ao280 co280 X2 Xg Ao281 co281 Xh true _ ?side1 ?side2 ?side3 ?side4 ?side5 A271.out).mono ?_); (case side1 => exact (Kd.R_reads' HOa.out).2.2); (case side2 => exact (Kd.R_reads' HOa.out).2.1); (case side3 => exact (Kd.R_reads' HOb.out).2.2); (case side4 => exact (Kd.R_reads' HOb.out).2.1); (case side5 => exact blf_); rintro e w' ⟨rfl, ⟨nd, rfl⟩⟩; refine ⟨_, rfl, ?_⟩) | ((with_reducible refine gate_callee (f := 25) rfl ?_); clear tk284; refine goL_ (some 29) Try.func25 #[.slice Ao280 X2.length co280] ?_; (with_reducible refine (api_Cell.calls _ _ X2 t294 _ ?side1 ?side2 A273.out).mono ?_); (case side1 => exact (Kd.R_reads' HOa.out).2.2); (case side2 => exact (Kd.R_reads' HOa.out).2.1); rintro e w283 ⟨v295, rfl, ho0, hb⟩; refine ⟨_, rfl, ?_⟩; replace HOc := zM (Kd.V_elder' (rv_ HOc) (Kd.R_base ho0) hb); have HO296 := zM (Kd.R_lower (Kd.R_newB (Kd.R_new' (Kd.R_new' (Kd.R_new' ho0 (Kd.R_lt (rl_ HO_11))) (Kd.R_lt (rl_ HOa))) (Kd.R_lt (rl_ HOb))) (g := gb258) (o := .cells #[.int .i64 Xc, .int .i64 a1_1, .int .i64 a1_2] 34 (0, 0)) blk_) (below_size bel_)); replace HO_11 := zM (Kd.R_elder' (rl_ HO_11) (Kd.R_base ho0) hb); replace HOa := zM (Kd.R_elder' (rl_ HOa) (Kd.R_base ho0) hb); replace HOb := zM (Kd.R_elder' (rl_ HOb) (Kd.R_base ho0) hb); replace BK258 := zM (bb_ BK258 hb); replace BK261 := zM (bb_ BK261 hb); replace BK262 := zM (bb_ BK262 hb); replace BK266 := zM (bb_ BK266 hb); replace BK267 := zM (bb_ BK267 hb); replace HB := zM (zB bel_ hb); (try clear hb); (try clear ho0)) | (clear tk285; (first | go_ret | go_ret2 | go_ret3 | go_end0); with_reducible refine inl_back_ ?_))
                   go_meet
                   case rel => exact ⟨_, (1), (t294), (true), (Xf), (Xg), (by first | rfl | (simp; done) | (simp [*]; done) | (simp; grind)), (by first | rfl | (simp; done) | (simp [*]; done) | (simp; grind)), H', ⟨by have := HJ9.out; have := HK2.out; have := HJ70.out; have := HK4.out; first | omega | exact Nat.le_refl _⟩, ⟨by (try simp only [hl11_4]); exact Kd.R_mono HO296.out (fun _ h => ⟨h.1.1.2, h.1.2, h.2⟩)⟩, ⟨by (try simp only [hl11_4]); exact Kd.R_mono HOa.out (fun _ h => ⟨h.2, h.1.2⟩)⟩, ⟨by (try simp only [hl11_4]); exact Kd.R_mono HOb.out (fun _ h => ⟨h.2, h.1.2⟩)⟩, ⟨by (try simp only [hl11_4]); exact Kd.V_mono HOc.out (fun _ h => ⟨h.2, h.1.2⟩)⟩, ⟨by (try simp only [hl11_4]); exact BK258.out⟩, ⟨by (try simp only [hl11_4]); exact BK261.out⟩, ⟨by (try simp only [hl11_4]); exact BK262.out⟩, ⟨by (try simp only [hl11_4]); exact BK266.out⟩, ⟨by (try simp only [hl11_4]); exact BK267.out⟩, ⟨bel_⟩⟩
                 replace c272 := Bool.eq_false_iff.mpr c272
                 subst c272
                 have H1 : ((api_Cell.f Xh).bind fun t297 => (ropewaylaw15_SnapRuns_t.j4 k4 1 t297 true l2 (l2.length : Int) x65_2 X2 Xg Xh t285 t286 t287 t288 t289)) = some r := by rw [if_neg (show ¬ (false = true) by decide)] at H; exact H
                 clear H
                 have H := H1
                 clear H1
                 replace H := Option.bind_eq_some_iff.mp H
                 obtain ⟨t297, A2860, H⟩ := H
                 replace H : (ropewaylaw15_SnapRuns_t.j4 k4 1 t297 true l2 (l2.length : Int) x65_2 X2 Xg Xh t285 t286 t287 t288 t289) = some r := H
                 have A286 := zM A2860
                 clear A2860
                 have H' := zM H
                 clear H
                 have tk287 : True := trivial
                 have tk295 : True := trivial
                 have tk297 : True := trivial
                 have tk298 : True := trivial
                 go_wp2_with (first | ((with_reducible refine gate_callee (f := 9) rfl ?_); clear tk287; refine goL_ (some 93) Try.func9 #[.pointer (some ⟨gb266, 0, none⟩)] ?_; go_enter Try.func9, Try.ntmps9; have hnb288 := NB266_258.out; have hnc288 := NB258_266.out; have hnb289 := NB266_261.out; have hnc289 := NB261_266.out; have hnb290 := NB266_262.out; have hnc290 := NB262_266.out; have hnb291 := NB266_267.out; have hnc291 := NB267_266.out; have hcz292 := rf3_ BK266.out; obtain ⟨Ao293, co293, eo293⟩ := Kd.R_slice HOa.out; subst eo293; obtain ⟨Ao294, co294, eo294⟩ := Kd.R_slice HOb.out; subst eo294) | ((with_reducible refine gate_callee (f := 11) rfl ?_); clear tk295; refine goL_ (some 24) Try.func11 #[.pointer (some ⟨gb266, 0, none⟩)] ?_; (with_reducible refine (snap_Snap_Own.calls gb266 Ao293 co293 X2 Xg Ao294 co294 Xh false _ ?side1 ?side2 ?side3 ?side4 ?side5 A271.out).mono ?_); (case side1 => exact (Kd.R_reads' HOa.out).2.2); (case side2 => exact (Kd.R_reads' HOa.out).2.1); (case side3 => exact (Kd.R_reads' HOb.out).2.2); (case side4 => exact (Kd.R_reads' HOb.out).2.1); (case side5 => exact blf_); rintro e w' ⟨rfl, ⟨nd, rfl⟩⟩; refine ⟨_, rfl, ?_⟩) | ((with_reducible refine gate_callee (f := 25) rfl ?_); clear tk297; refine goL_ (some 34) Try.func25 #[.slice Ao294 Xh.length co294] ?_; (with_reducible refine (api_Cell.calls _ _ Xh t297 _ ?side1 ?side2 A286.out).mono ?_); (case side1 => exact (Kd.R_reads' HOb.out).2.2); (case side2 => exact (Kd.R_reads' HOb.out).2.1); rintro e w296 ⟨v298, rfl, ho0, hb⟩; refine ⟨_, rfl, ?_⟩; replace HOc := zM (Kd.V_elder' (rv_ HOc) (Kd.R_base ho0) hb); have HO299 := zM (Kd.R_lower (Kd.R_newB (Kd.R_new' (Kd.R_new' (Kd.R_new' ho0 (Kd.R_lt (rl_ HO_11))) (Kd.R_lt (rl_ HOa))) (Kd.R_lt (rl_ HOb))) (g := gb258) (o := .cells #[.int .i64 Xc, .int .i64 a1_1, .int .i64 a1_2] 34 (0, 0)) blk_) (below_size bel_)); replace HO_11 := zM (Kd.R_elder' (rl_ HO_11) (Kd.R_base ho0) hb); replace HOa := zM (Kd.R_elder' (rl_ HOa) (Kd.R_base ho0) hb); replace HOb := zM (Kd.R_elder' (rl_ HOb) (Kd.R_base ho0) hb); replace BK258 := zM (bb_ BK258 hb); replace BK261 := zM (bb_ BK261 hb); replace BK262 := zM (bb_ BK262 hb); replace BK266 := zM (bb_ BK266 hb); replace BK267 := zM (bb_ BK267 hb); replace HB := zM (zB bel_ hb); (try clear hb); (try clear ho0)) | (clear tk298; (first | go_ret | go_ret2 | go_ret3 | go_end0); with_reducible refine inl_back_ ?_))
                 go_meet
                 case rel => exact ⟨_, (1), (t297), (true), (Xf), (Xg), (by first | rfl | (simp; done) | (simp [*]; done) | (simp; grind)), (by first | rfl | (simp; done) | (simp [*]; done) | (simp; grind)), H', ⟨by have := HJ9.out; have := HK2.out; have := HJ70.out; have := HK4.out; first | omega | exact Nat.le_refl _⟩, ⟨by (try simp only [hl11_4]); exact Kd.R_mono HO299.out (fun _ h => ⟨h.1.1.2, h.1.2, h.2⟩)⟩, ⟨by (try simp only [hl11_4]); exact Kd.R_mono HOa.out (fun _ h => ⟨h.2, h.1.2⟩)⟩, ⟨by (try simp only [hl11_4]); exact Kd.R_mono HOb.out (fun _ h => ⟨h.2, h.1.2⟩)⟩, ⟨by (try simp only [hl11_4]); exact Kd.V_mono HOc.out (fun _ h => ⟨h.2, h.1.2⟩)⟩, ⟨by (try simp only [hl11_4]); exact BK258.out⟩, ⟨by (try simp only [hl11_4]); exact BK261.out⟩, ⟨by (try simp only [hl11_4]); exact BK262.out⟩, ⟨by (try simp only [hl11_4]); exact BK266.out⟩, ⟨by (try simp only [hl11_4]); exact BK267.out⟩, ⟨bel_⟩⟩
                case rest => as_aux_lemma =>
                 clear HC246
                 try clear c2
                 try clear c7
                 try clear c11
                 try clear c11b0
                 try clear c11b1
                 try clear c12
                 try clear c12b0
                 try clear c14
                 try clear c14b0
                 try clear c17
                 try clear c25
                 try clear c58
                 try clear c58b0
                 try clear c59
                 try clear c59b0
                 try clear c60
                 try clear c60b0
                 try clear c62
                 try clear c62b0
                 try clear c62b1
                 try clear c65
                 try clear c72
                 try clear c72b0
                 try clear c72b1
                 try clear c74
                 try clear c74b0
                 try clear c74b1
                 try clear c74b2
                 try clear c76
                 try clear c124
                 try clear c124b0
                 try clear c124b1
                 try clear c126
                 try clear c126b0
                 try clear c126b1
                 try clear c126b2
                 try clear c128
                 try clear c176
                 try clear c176b0
                 try clear c176b1
                 try clear c178
                 try clear c206
                 try clear c206b0
                 try clear c206b1
                 try clear c239
                 try clear c239b0
                 try clear c240
                 try clear c240b0
                 try clear c241
                 try clear c241b0
                 try clear p242
                 try clear q242
                 try clear c247
                 try clear c247b0
                 try clear c247b1
                 try clear c255
                 try clear c255b0
                 try clear c255b1
                 try clear c263
                 try clear c263b0
                 try clear c263b1
                 try clear p268
                 try clear q268
                 try clear c272
                 try clear hcz103
                 try clear hcz116
                 try clear hcz120
                 try clear hcz135
                 try clear hcz139
                 try clear hcz13
                 try clear hcz151
                 try clear hcz155
                 try clear hcz15
                 try clear hcz168
                 try clear hcz172
                 try clear hcz185
                 try clear hcz18
                 try clear hcz199
                 try clear hcz213
                 try clear hcz21
                 try clear hcz223
                 try clear hcz22
                 try clear hcz230
                 try clear hcz234
                 try clear hcz253
                 try clear hcz261
                 try clear hcz269
                 try clear hcz279
                 try clear hcz292
                 try clear hcz31
                 try clear hcz37
                 try clear hcz48
                 try clear hcz55
                 try clear hcz83
                 try clear hcz87
                 try clear hcz99
                 try clear hx242_0
                 try clear hx242_1
                 try clear hx242_2
                 try clear hx243_0
                 try clear hx268_0
                 try clear p242
                 try clear p268
                 try clear q242
                 try clear q268
                 obtain ⟨kq, x13_245, x14_245, x15_245, Xi, Xj, rfl, rfl, HA, HJ245, HO_14, HOa, HOb, HOc, BK258, BK261, BK262, BK266, BK267, HB⟩ := hcut
                 cases kq with
                 | zero => exact absurd HA.out (by simp [ropewaylaw15_SnapRuns_t.j4])
                 | succ kj245 =>
                  have H := HA.out
                  clear HA
                  simp only [ropewaylaw15_SnapRuns_t.j4] at H
                  replace H := Option.bind_eq_some_iff.mp H
                  obtain ⟨⟨t300, t301, t304⟩, A2990, H⟩ := H
                  replace H : (if x13_245 = t300 then ((ropewayref10_Same.f kj245 x14_245 t301).bind fun t305 => (if t305 = true then (if (x15_245 != t304) = true then (ropewaylaw15_SnapRuns_t.j5 kj245 l2 (l2.length : Int) x65_2 true X2 Xj Xh t285 t286 t287 t288 t289) else ((snap_Snap_Own.f X2 Xj Xh).bind fun t306 => ((ropewayref15_Own.f t285 t286 t287 t288 t289).bind fun t307 => (ropewaylaw15_SnapRuns_t.j5 kj245 l2 (l2.length : Int) x65_2 (t306 != t307) X2 Xj Xh t285 t286 t287 t288 t289)))) else (ropewaylaw15_SnapRuns_t.j5 kj245 l2 (l2.length : Int) x65_2 true X2 Xj Xh t285 t286 t287 t288 t289))) else (ropewaylaw15_SnapRuns_t.j5 kj245 l2 (l2.length : Int) x65_2 true X2 Xj Xh t285 t286 t287 t288 t289)) = some r := H
                  have A299 := zM A2990
                  clear A2990
                  have hnb300 := NB267_258.out
                  have hnc300 := NB258_267.out
                  have hnb301 := NB267_261.out
                  have hnc301 := NB261_267.out
                  have hnb302 := NB267_262.out
                  have hnc302 := NB262_267.out
                  have hnb303 := NB267_266.out
                  have hnc303 := NB266_267.out
                  have hcz304 := rf5_ BK267.out
                  have tk306 : True := trivial
                  go_upto_region 24 with (first | ((with_reducible refine gate_callee (f := 17) rfl ?_); clear tk306; refine goL_ (some 99) Try.func17 #[.agg #[.bool t285, .int .i64 t286, .int .i64 t287, .int .i64 t288, .slice Ao235 t289.length co235]] ?_; (with_reducible refine (ropewayref15_Need.calls t285 t286 t287 t288 (fun k_ => (some k_ ≠ (u14 : Value).ownBlock ∧ (some k_ ≠ (u267000 : Value).ownBlock ∧ (some k_ ≠ (u267002 : Value).ownBlock ∧ (k_ ≠ gb258 ∧ (k_ ≠ gb261 ∧ (k_ ≠ gb262 ∧ (k_ ≠ gb266 ∧ k_ ≠ gb267)))))))) _ _ t289 t300 t301 t304 _ ?side1 A299.out).mono ?_); (case side1 => exact HOc.out); rintro e w305 ⟨v302, rfl, ho0, hb⟩; refine ⟨_, rfl, ?_⟩; replace HOc := zM (Kd.V_below (rv_ HOc) hb); have HO303 := zM (Kd.V_lower (Kd.V_mono (ok' := fun k_ => some k_ ≠ (u14 : Value).ownBlock ∧ some k_ ≠ (u267000 : Value).ownBlock ∧ some k_ ≠ (u267002 : Value).ownBlock ∧ k_ ≠ gb258 ∧ k_ ≠ gb261 ∧ k_ ≠ gb262 ∧ k_ ≠ gb266 ∧ k_ ≠ gb267) ho0 (fun k_ hk_ => ⟨Or.elim hk_ (fun hs_ => hs_.1) (fun hn_ => (Kd.fresh' (Kd.R_lt (rl_ HO_14)) k_ hn_)), Or.elim hk_ (fun hs_ => hs_.2.1) (fun hn_ => (Kd.fresh' (Kd.R_lt (rl_ HOa)) k_ hn_)), Or.elim hk_ (fun hs_ => hs_.2.2.1) (fun hn_ => (Kd.fresh' (Kd.R_lt (rl_ HOb)) k_ hn_)), Or.elim hk_ (fun hs_ => hs_.2.2.2.1) (fun hn_ => (Kd.freshB (g := gb258) (o := .cells #[.int .i64 Xc, .int .i64 a1_1, .int .i64 a1_2] 34 (0, 0)) blk_ k_ hn_)), Or.elim hk_ (fun hs_ => hs_.2.2.2.2.1) (fun hn_ => (Kd.freshB (g := gb261) (o := .cells #[.slice none 0 0, .int .i64 Xi, .slice none 0 0] 61 (0, 0)) blk_ k_ hn_)), Or.elim hk_ (fun hs_ => hs_.2.2.2.2.2.1) (fun hn_ => (Kd.freshB (g := gb262) (o := .cells #[.int .i64 a1_1, .int .i64 a1_2] 26 (0, 0)) blk_ k_ hn_)), Or.elim hk_ (fun hs_ => hs_.2.2.2.2.2.2.1) (fun hn_ => (Kd.freshB (g := gb266) (o := .cells #[u267000, .int .i64 Xj, u267002] 61 (0, 0)) blk_ k_ hn_)), Or.elim hk_ (fun hs_ => hs_.2.2.2.2.2.2.2) (fun hn_ => (Kd.freshB (g := gb267) (o := .cells #[.bool t285, .int .i64 t286, .int .i64 t287, .int .i64 t288, .slice Ao235 t289.length co235] 38 (0, 0)) blk_ k_ hn_))⟩)) (below_size bel_)); replace HO_14 := zM (Kd.R_below (rl_ HO_14) hb); replace HOa := zM (Kd.R_below (rl_ HOa) hb); replace HOb := zM (Kd.R_below (rl_ HOb) hb); replace BK258 := zM (bb_ BK258 hb); replace BK261 := zM (bb_ BK261 hb); replace BK262 := zM (bb_ BK262 hb); replace BK266 := zM (bb_ BK266 hb); replace BK267 := zM (bb_ BK267 hb); replace HB := zM (zB bel_ hb); (try clear hb); (try clear ho0)))
                  have HC307 := zM H
                  clear H
                  go_upto_region 24 with (fail)
                  (try simp only [Act.put, zS, zZ, zC])
                  go_cut [123] (fun v123 wc => ∃ (kq : Nat) (x123_306 : Bool) (Xk : Int), v123 = .bool x123_306 ∧ Aside0 (ropewaylaw15_SnapRuns_t.j5 kq l2 (l2.length : Int) x65_2 x123_306 X2 Xk Xh t285 t286 t287 t288 t289 = some r) ∧ Aside0 (kq ≤ kj245) ∧ Aside0 (Kd.R k34 34 wc w.heap.size (fun k_ => some k_ ≠ (u267002 : Value).ownBlock ∧ k_ ≠ gb258) u267000 X2) ∧ Aside0 (Kd.R k34 34 wc w.heap.size (fun k_ => some k_ ≠ (u267000 : Value).ownBlock ∧ k_ ≠ gb258) u267002 Xh) ∧ Aside0 (Kd.V (Kd.slice 34 k34) 27 wc w.heap.size (fun k_ => some k_ ≠ (u267000 : Value).ownBlock ∧ some k_ ≠ (u267002 : Value).ownBlock ∧ k_ ≠ gb258 ∧ k_ ≠ gb261 ∧ k_ ≠ gb262 ∧ k_ ≠ gb266 ∧ k_ ≠ gb267) (.slice Ao235 t289.length co235) t289) ∧ Aside0 (wc.heap[gb258]? = some (.cells #[.int .i64 Xc, .int .i64 a1_1, .int .i64 a1_2] 34 (0, 0))) ∧ Aside0 (wc.heap[gb261]? = some (.cells #[(.slice none 0 0), .int .i64 Xi, (.slice none 0 0)] 61 (0, 0))) ∧ Aside0 (wc.heap[gb262]? = some (.cells #[.int .i64 a1_1, .int .i64 a1_2] 26 (0, 0))) ∧ Aside0 (wc.heap[gb266]? = some (.cells #[u267000, .int .i64 Xk, u267002] 61 (0, 0))) ∧ Aside0 (wc.heap[gb267]? = some (.cells #[.bool t285, .int .i64 t286, .int .i64 t287, .int .i64 t288, (.slice Ao235 t289.length co235)] 38 (0, 0))) ∧ Aside0 (Below w.heap.size w wc))
                  case first => as_aux_lemma =>
                   have H := HC307.out
                   clear HC307
                   by_cases c308 : x13_245 = t300
                   rotate_left
                   ·
                    rw [if_neg c308] at H
                    have c308b0 : (x13_245 == t300) = false := beq_eq_false_iff_ne.mpr c308
                    have c308b1 : (x13_245 != t300) = true := bne_iff_ne.mpr c308
                    (first | rw [c308b0] | (simp only [i64_w, i32_w]; rw [c308b0]) | skip)
                    have H' := zM H
                    clear H
                    try go_wp2
                    go_quiet (fail)
                    replace HO_14 := zM (Kd.R_drewN HO_14.out nq)
                    replace HOa := zM (Kd.R_drewN HOa.out nq)
                    replace HOb := zM (Kd.R_drewN HOb.out nq)
                    replace HOc := zM (Kd.V_drewN HOc.out nq)
                    replace HO303 := zM (Kd.V_drewN HO303.out nq)
                    replace BK258 := zM (zN BK258.out nq)
                    replace BK261 := zM (zN BK261.out nq)
                    replace BK262 := zM (zN BK262.out nq)
                    replace BK266 := zM (zN BK266.out nq)
                    replace BK267 := zM (zN BK267.out nq)
                    replace HB := zM (pw_below_drewN HB.out nq)
                    generalize w305.drewN nq = w326 at HO_14 HOa HOb HOc HO303 BK258 BK261 BK262 BK266 BK267 HB ⊢
                    try go_wp2
                    go_meet
                    case rel => exact ⟨_, (true), (Xj), (by first | rfl | (simp; done) | (simp [*]; done) | (simp; grind)), H', ⟨by have := HJ9.out; have := HK2.out; have := HJ70.out; have := HK4.out; have := HJ245.out; first | omega | exact Nat.le_refl _⟩, ⟨by (try simp only [hl11_4]); exact Kd.R_mono HOa.out (fun _ h => h.2)⟩, ⟨by (try simp only [hl11_4]); exact Kd.R_mono HOb.out (fun _ h => h.2)⟩, ⟨by (try simp only [hl11_4]); exact Kd.V_mono HOc.out (fun _ h => h.2)⟩, ⟨by (try simp only [hl11_4]); exact BK258.out⟩, ⟨by (try simp only [hl11_4]); exact BK261.out⟩, ⟨by (try simp only [hl11_4]); exact BK262.out⟩, ⟨by (try simp only [hl11_4]); exact BK266.out⟩, ⟨by (try simp only [hl11_4]); exact BK267.out⟩, ⟨bel_⟩⟩
                   as_aux_lemma =>
                    rw [if_pos c308] at H
                    have c308b0 : (x13_245 == t300) = true := beq_iff_eq.mpr c308
                    have c308b1 : (x13_245 != t300) = false := bne_eq_false_iff_eq.mpr c308
                    clear c308
                    (first | rw [c308b0] | (simp only [i64_w, i32_w]; rw [c308b0]) | skip)
                    replace H := Option.bind_eq_some_iff.mp H
                    obtain ⟨t305, A3090, H⟩ := H
                    replace H : (if t305 = true then (if (x15_245 != t304) = true then (ropewaylaw15_SnapRuns_t.j5 kj245 l2 (l2.length : Int) x65_2 true X2 Xj Xh t285 t286 t287 t288 t289) else ((snap_Snap_Own.f X2 Xj Xh).bind fun t306 => ((ropewayref15_Own.f t285 t286 t287 t288 t289).bind fun t307 => (ropewaylaw15_SnapRuns_t.j5 kj245 l2 (l2.length : Int) x65_2 (t306 != t307) X2 Xj Xh t285 t286 t287 t288 t289)))) else (ropewaylaw15_SnapRuns_t.j5 kj245 l2 (l2.length : Int) x65_2 true X2 Xj Xh t285 t286 t287 t288 t289)) = some r := H
                    have A309 := zM A3090
                    clear A3090
                    by_cases c310 : t305 = true
                    rotate_left
                    ·
                     as_aux_lemma =>
                      replace c310 := Bool.eq_false_iff.mpr c310
                      subst c310
                      have H1 : (ropewaylaw15_SnapRuns_t.j5 kj245 l2 (l2.length : Int) x65_2 true X2 Xj Xh t285 t286 t287 t288 t289) = some r := by rw [if_neg (show ¬ (false = true) by decide)] at H; exact H
                      clear H
                      have H := H1
                      clear H1
                      have H' := zM H
                      clear H
                      try go_wp2
                      replace HO_14 := zM (Kd.R_drew HO_14.out)
                      replace HOa := zM (Kd.R_drew HOa.out)
                      replace HOb := zM (Kd.R_drew HOb.out)
                      replace HOc := zM (Kd.V_drew HOc.out)
                      replace HO303 := zM (Kd.V_drew HO303.out)
                      replace BK258 := zM (zD BK258.out)
                      replace BK261 := zM (zD BK261.out)
                      replace BK262 := zM (zD BK262.out)
                      replace BK266 := zM (zD BK266.out)
                      replace BK267 := zM (zD BK267.out)
                      replace HB := zM (below_drew1 HB.out)
                      obtain ⟨Ao324, co324, eo324⟩ := Kd.R_slice HO_14.out
                      (first | subst eo324 | (injection eo324 with f1_ f2_ f3_; have f4_ := f1_.symm; have f5_ := f3_.symm; clear f1_ f2_ f3_; subst f4_; subst f5_))
                      obtain ⟨Ao325, co325, eo325⟩ := Kd.V_slice HO303.out
                      (first | subst eo325 | (injection eo325 with f1_ f2_ f3_; have f4_ := f1_.symm; have f5_ := f3_.symm; clear f1_ f2_ f3_; subst f4_; subst f5_))
                      refine start_ (n := 21) (S := fun w' => True) (ds := []) #[F_, F_, F_, F_, F_, F_, F_, F_, F_, F_, F_, F_, F_, F_, F_, F_, F_, F_, F_, F_, F_] (by kernel_rfl) rfl rfl trivial (fun hHeld => ?_); refine with_tabW ropewaylaw15_SnapRuns_t.tab24 ropewaylaw15_SnapRuns_t.bits24 (fun HT_ HW_ => ?_)
                      generalize w305.drew = w323 at HO_14 HOa HOb HOc HO303 BK258 BK261 BK262 BK266 BK267 HB hHeld ⊢
                      refine put_ HT_ 0 103 (dm_ 21 1) ?_
                      refine put_ HT_ 1 104 (dm_ 21 3) ?_
                      refine put_ HT_ 2 105 (dm_ 21 7) ?_
                      refine put_ HT_ 3 106 (dm_ 21 15) ?_
                      refine put_ HT_ 4 107 (dm_ 21 31) ?_
                      refine put_ HT_ 5 108 (dm_ 21 63) ?_
                      refine one_ (i := 6) (N := some 109) (dm_ 21 127) rfl rfl (one_of HT_.out (by kernel_rfl)) (by decide) (fun K hK => ?_)
                      first | refine goes_ Try.func18 (by kernel_rfl) rfl #[.slice Ao324 x14_245.length co324, .slice Ao325 t301.length co325] (by rfl) rfl rfl (by (try simp only [List.map_toArray, List.map_cons, List.map_nil]); first | done | rfl | (simp only [List.length_drop, List.length_take]; rfl)) ?_ | refine goesT_ Try.func18 (by kernel_rfl) rfl #[.slice Ao324 x14_245.length co324, .slice Ao325 t301.length co325] (by rfl) rfl rfl (by rfl) (by (try simp only [List.map_toArray, List.map_cons, List.map_nil]); first | done | rfl | (simp only [List.length_drop, List.length_take]; rfl)) ?_
                      with_reducible refine (ropewayref10_Same.calls kj245 _ _ x14_245 _ _ t301 false _ ?side1 ?side2 ?side3 ?side4 A309.out).mono ?_
                      (case side1 => exact (Kd.R_reads' HO_14.out).2.2)
                      (case side2 => exact (Kd.R_reads' HO_14.out).2.1)
                      (case side3 => repeat (first | exact (Kd.V_reads' HO303.out).2.2 | (with_reducible refine Kd.C_alloc ?_ _) | (with_reducible refine Kd.C_drewN ?_ _) | (with_reducible refine Kd.C_drew ?_)))
                      (case side4 => exact (Kd.V_reads' HO303.out).2.1)
                      rintro e w' ⟨rfl, ⟨nd, rfl⟩⟩
                      refine ⟨_, rfl, ?_⟩
                      refine hK.out _ _ trivial (fun hHeld => ?_)
                      clear hK K
                      refine norm_ (a' := ?_) ?_ ?_
                      rotate_left
                      · show Act.put _ (some 109) _ = _
                        simp only [Act.put, zS, zZ, zC, i64_w, i32_w]
                        rfl
                      refine put_ HT_ 7 110 (dm_ 21 255) ?_
                      refine put_ HT_ 8 111 (dm_ 21 511) ?_
                      refine put_ HT_ 9 112 (dm_ 21 1023) ?_
                      refine pzt_ HT_ 10 113 (dm_ 21 2047) ?_
                      refine pzt_ HT_ 11 114 (dm_ 21 4095) ?_
                      refine pzt_ HT_ 12 115 (dm_ 21 8191) ?_
                      refine put_ HT_ 13 116 (dm_ 21 16383) ?_
                      refine put_ HT_ 14 117 (dm_ 21 32767) ?_
                      refine pzt_ HT_ 15 118 (dm_ 21 65535) ?_
                      refine pzt_ HT_ 16 119 (dm_ 21 131071) ?_
                      refine pzt_ HT_ 17 120 (dm_ 21 262143) ?_
                      refine pzt_ HT_ 18 121 (dm_ 21 524287) ?_
                      refine pzt_ HT_ 19 122 (dm_ 21 1048575) ?_
                      refine put_ HT_ 20 123 (dm_ 21 2097151) ?_
                      refine done_ (done_of HT_.out (by kernel_rfl)) ?_
                      try go_wp2
                      go_meet
                      case rel => exact ⟨_, (true), (Xj), (by first | rfl | (simp; done) | (simp [*]; done) | (simp; grind)), H', ⟨by have := HJ9.out; have := HK2.out; have := HJ70.out; have := HK4.out; have := HJ245.out; first | omega | exact Nat.le_refl _⟩, ⟨by (try simp only [hl11_4]); exact Kd.R_mono HOa.out (fun _ h => h.2)⟩, ⟨by (try simp only [hl11_4]); exact Kd.R_mono HOb.out (fun _ h => h.2)⟩, ⟨by (try simp only [hl11_4]); exact Kd.V_mono HOc.out (fun _ h => h.2)⟩, ⟨by (try simp only [hl11_4]); exact BK258.out⟩, ⟨by (try simp only [hl11_4]); exact BK261.out⟩, ⟨by (try simp only [hl11_4]); exact BK262.out⟩, ⟨by (try simp only [hl11_4]); exact BK266.out⟩, ⟨by (try simp only [hl11_4]); exact BK267.out⟩, ⟨bel_⟩⟩
                    as_aux_lemma =>
                     subst c310
                     have H1 : (if (x15_245 != t304) = true then (ropewaylaw15_SnapRuns_t.j5 kj245 l2 (l2.length : Int) x65_2 true X2 Xj Xh t285 t286 t287 t288 t289) else ((snap_Snap_Own.f X2 Xj Xh).bind fun t306 => ((ropewayref15_Own.f t285 t286 t287 t288 t289).bind fun t307 => (ropewaylaw15_SnapRuns_t.j5 kj245 l2 (l2.length : Int) x65_2 (t306 != t307) X2 Xj Xh t285 t286 t287 t288 t289)))) = some r := by rw [if_pos rfl] at H; exact H
                     clear H
                     have H := H1
                     clear H1
                     by_cases c311 : (x15_245 != t304) = true
                     ·
                      rw [if_pos c311] at H
                      have c311b0 : (x15_245 != t304) = true := c311
                      (try (have c311b1 : decide (x15_245 = t304) = false := by simpa using c311))
                      (try (have c311b2 : (x15_245 == t304) = false := by simpa using c311))
                      (try (have c311b3 : ¬ (x15_245 = t304) := by simpa using c311))
                      clear c311
                      have H' := zM H
                      clear H
                      try go_wp2
                      replace HO_14 := zM (Kd.R_drew HO_14.out)
                      replace HOa := zM (Kd.R_drew HOa.out)
                      replace HOb := zM (Kd.R_drew HOb.out)
                      replace HOc := zM (Kd.V_drew HOc.out)
                      replace HO303 := zM (Kd.V_drew HO303.out)
                      replace BK258 := zM (zD BK258.out)
                      replace BK261 := zM (zD BK261.out)
                      replace BK262 := zM (zD BK262.out)
                      replace BK266 := zM (zD BK266.out)
                      replace BK267 := zM (zD BK267.out)
                      replace HB := zM (below_drew1 HB.out)
                      obtain ⟨Ao313, co313, eo313⟩ := Kd.R_slice HO_14.out
                      (first | subst eo313 | (injection eo313 with f1_ f2_ f3_; have f4_ := f1_.symm; have f5_ := f3_.symm; clear f1_ f2_ f3_; subst f4_; subst f5_))
                      obtain ⟨Ao314, co314, eo314⟩ := Kd.V_slice HO303.out
                      (first | subst eo314 | (injection eo314 with f1_ f2_ f3_; have f4_ := f1_.symm; have f5_ := f3_.symm; clear f1_ f2_ f3_; subst f4_; subst f5_))
                      refine start_ (n := 21) (S := fun w' => True) (ds := []) #[F_, F_, F_, F_, F_, F_, F_, F_, F_, F_, F_, F_, F_, F_, F_, F_, F_, F_, F_, F_, F_] (by kernel_rfl) rfl rfl trivial (fun hHeld => ?_); refine with_tabW ropewaylaw15_SnapRuns_t.tab24 ropewaylaw15_SnapRuns_t.bits24 (fun HT_ HW_ => ?_)
                      generalize w305.drew = w312 at HO_14 HOa HOb HOc HO303 BK258 BK261 BK262 BK266 BK267 HB hHeld ⊢
                      refine put_ HT_ 0 103 (dm_ 21 1) ?_
                      refine put_ HT_ 1 104 (dm_ 21 3) ?_
                      refine put_ HT_ 2 105 (dm_ 21 7) ?_
                      refine put_ HT_ 3 106 (dm_ 21 15) ?_
                      refine put_ HT_ 4 107 (dm_ 21 31) ?_
                      refine put_ HT_ 5 108 (dm_ 21 63) ?_
                      refine one_ (i := 6) (N := some 109) (dm_ 21 127) rfl rfl (one_of HT_.out (by kernel_rfl)) (by decide) (fun K hK => ?_)
                      first | refine goes_ Try.func18 (by kernel_rfl) rfl #[.slice Ao313 x14_245.length co313, .slice Ao314 t301.length co314] (by rfl) rfl rfl (by (try simp only [List.map_toArray, List.map_cons, List.map_nil]); first | done | rfl | (simp only [List.length_drop, List.length_take]; rfl)) ?_ | refine goesT_ Try.func18 (by kernel_rfl) rfl #[.slice Ao313 x14_245.length co313, .slice Ao314 t301.length co314] (by rfl) rfl rfl (by rfl) (by (try simp only [List.map_toArray, List.map_cons, List.map_nil]); first | done | rfl | (simp only [List.length_drop, List.length_take]; rfl)) ?_
                      with_reducible refine (ropewayref10_Same.calls kj245 _ _ x14_245 _ _ t301 true _ ?side1 ?side2 ?side3 ?side4 A309.out).mono ?_
                      (case side1 => exact (Kd.R_reads' HO_14.out).2.2)
                      (case side2 => exact (Kd.R_reads' HO_14.out).2.1)
                      (case side3 => repeat (first | exact (Kd.V_reads' HO303.out).2.2 | (with_reducible refine Kd.C_alloc ?_ _) | (with_reducible refine Kd.C_drewN ?_ _) | (with_reducible refine Kd.C_drew ?_)))
                      (case side4 => exact (Kd.V_reads' HO303.out).2.1)
                      rintro e w' ⟨rfl, ⟨nd, rfl⟩⟩
                      refine ⟨_, rfl, ?_⟩
                      refine hK.out _ _ trivial (fun hHeld => ?_)
                      clear hK K
                      refine norm_ (a' := ?_) ?_ ?_
                      rotate_left
                      · show Act.put _ (some 109) _ = _
                        simp only [Act.put, zS, zZ, zC, i64_w, i32_w]
                        rfl
                      refine put_ HT_ 7 110 (dm_ 21 255) ?_
                      refine put_ HT_ 8 111 (dm_ 21 511) ?_
                      refine put_ HT_ 9 112 (dm_ 21 1023) ?_
                      refine put_ HT_ 10 113 (dm_ 21 2047) ?_
                      refine put_ HT_ 11 114 (dm_ 21 4095) ?_
                      refine put_ HT_ 12 115 (dm_ 21 8191) ?_
                      refine put_ HT_ 13 116 (dm_ 21 16383) ?_
                      refine put_ HT_ 14 117 (dm_ 21 32767) ?_
                      refine pzt_ HT_ 15 118 (dm_ 21 65535) ?_
                      refine pzt_ HT_ 16 119 (dm_ 21 131071) ?_
                      refine pzt_ HT_ 17 120 (dm_ 21 262143) ?_
                      refine pzt_ HT_ 18 121 (dm_ 21 524287) ?_
                      refine pzt_ HT_ 19 122 (dm_ 21 1048575) ?_
                      refine put_ HT_ 20 123 (dm_ 21 2097151) ?_
                      refine done_ (done_of HT_.out (by kernel_rfl)) ?_
                      try go_wp2
                      go_meet
                      case rel => exact ⟨_, (true), (Xj), (by first | rfl | (simp; done) | (simp [*]; done) | (simp; grind)), H', ⟨by have := HJ9.out; have := HK2.out; have := HJ70.out; have := HK4.out; have := HJ245.out; first | omega | exact Nat.le_refl _⟩, ⟨by (try simp only [hl11_4]); exact Kd.R_mono HOa.out (fun _ h => h.2)⟩, ⟨by (try simp only [hl11_4]); exact Kd.R_mono HOb.out (fun _ h => h.2)⟩, ⟨by (try simp only [hl11_4]); exact Kd.V_mono HOc.out (fun _ h => h.2)⟩, ⟨by (try simp only [hl11_4]); exact BK258.out⟩, ⟨by (try simp only [hl11_4]); exact BK261.out⟩, ⟨by (try simp only [hl11_4]); exact BK262.out⟩, ⟨by (try simp only [hl11_4]); exact BK266.out⟩, ⟨by (try simp only [hl11_4]); exact BK267.out⟩, ⟨bel_⟩⟩
                     rw [if_neg c311] at H
                     have c311b0 : (x15_245 != t304) = false := by simpa using c311
                     (try (have c311b1 : decide (x15_245 = t304) = true := by simpa using c311))
                     (try (have c311b2 : (x15_245 == t304) = true := by simpa using c311))
                     clear c311
                     replace H := Option.bind_eq_some_iff.mp H
                     obtain ⟨t306, A3150, H⟩ := H
                     replace H : ((ropewayref15_Own.f t285 t286 t287 t288 t289).bind fun t307 => (ropewaylaw15_SnapRuns_t.j5 kj245 l2 (l2.length : Int) x65_2 (t306 != t307) X2 Xj Xh t285 t286 t287 t288 t289)) = some r := H
                     have A315 := zM A3150
                     clear A3150
                     replace H := Option.bind_eq_some_iff.mp H
                     obtain ⟨t307, A3160, H⟩ := H
                     replace H : (ropewaylaw15_SnapRuns_t.j5 kj245 l2 (l2.length : Int) x65_2 (t306 != t307) X2 Xj Xh t285 t286 t287 t288 t289) = some r := H
                     have A316 := zM A3160
                     clear A3160
                     have H' := zM H
                     clear H
                     try go_wp2
                     replace HO_14 := zM (Kd.R_drew HO_14.out)
                     replace HOa := zM (Kd.R_drew HOa.out)
                     replace HOb := zM (Kd.R_drew HOb.out)
                     replace HOc := zM (Kd.V_drew HOc.out)
                     replace HO303 := zM (Kd.V_drew HO303.out)
                     replace BK258 := zM (zD BK258.out)
                     replace BK261 := zM (zD BK261.out)
                     replace BK262 := zM (zD BK262.out)
                     replace BK266 := zM (zD BK266.out)
                     replace BK267 := zM (zD BK267.out)
                     replace HB := zM (below_drew1 HB.out)
                     obtain ⟨Ao318, co318, eo318⟩ := Kd.R_slice HO_14.out
                     (first | subst eo318 | (injection eo318 with f1_ f2_ f3_; have f4_ := f1_.symm; have f5_ := f3_.symm; clear f1_ f2_ f3_; subst f4_; subst f5_))
                     obtain ⟨Ao319, co319, eo319⟩ := Kd.V_slice HO303.out
                     (first | subst eo319 | (injection eo319 with f1_ f2_ f3_; have f4_ := f1_.symm; have f5_ := f3_.symm; clear f1_ f2_ f3_; subst f4_; subst f5_))
                     refine start_ (n := 21) (S := fun w' => cz5_ w' gb267 (.bool t285) (.int .i64 t286) (.int .i64 t287) (.int .i64 t288) (.slice Ao235 t289.length co235)) (ds := []) #[F_, F_, F_, F_, F_, F_, F_, F_, F_, F_, F_, F_, F_, F_, F_, F_, F_, F_, F_, F_, F_] (by kernel_rfl) rfl rfl (r5_ BK267.out) (fun hHeld => ?_); refine with_tabW ropewaylaw15_SnapRuns_t.tab24 ropewaylaw15_SnapRuns_t.bits24 (fun HT_ HW_ => ?_)
                     generalize w305.drew = w317 at HO_14 HOa HOb HOc HO303 BK258 BK261 BK262 BK266 BK267 HB hHeld ⊢
                     refine put_ HT_ 0 103 (dm_ 21 1) ?_
                     refine put_ HT_ 1 104 (dm_ 21 3) ?_
                     refine put_ HT_ 2 105 (dm_ 21 7) ?_
                     refine put_ HT_ 3 106 (dm_ 21 15) ?_
                     refine put_ HT_ 4 107 (dm_ 21 31) ?_
                     refine put_ HT_ 5 108 (dm_ 21 63) ?_
                     refine one_ (i := 6) (N := some 109) (dm_ 21 127) rfl rfl (one_of HT_.out (by kernel_rfl)) (by decide) (fun K hK => ?_)
                     first | refine goes_ Try.func18 (by kernel_rfl) rfl #[.slice Ao318 x14_245.length co318, .slice Ao319 t301.length co319] (by rfl) rfl rfl (by (try simp only [List.map_toArray, List.map_cons, List.map_nil]); first | done | rfl | (simp only [List.length_drop, List.length_take]; rfl)) ?_ | refine goesT_ Try.func18 (by kernel_rfl) rfl #[.slice Ao318 x14_245.length co318, .slice Ao319 t301.length co319] (by rfl) rfl rfl (by rfl) (by (try simp only [List.map_toArray, List.map_cons, List.map_nil]); first | done | rfl | (simp only [List.length_drop, List.length_take]; rfl)) ?_
                     with_reducible refine (ropewayref10_Same.calls kj245 _ _ x14_245 _ _ t301 true _ ?side1 ?side2 ?side3 ?side4 A309.out).mono ?_
                     (case side1 => exact (Kd.R_reads' HO_14.out).2.2)
                     (case side2 => exact (Kd.R_reads' HO_14.out).2.1)
                     (case side3 => repeat (first | exact (Kd.V_reads' HO303.out).2.2 | (with_reducible refine Kd.C_alloc ?_ _) | (with_reducible refine Kd.C_drewN ?_ _) | (with_reducible refine Kd.C_drew ?_)))
                     (case side4 => exact (Kd.V_reads' HO303.out).2.1)
                     rintro e w' ⟨rfl, ⟨nd, rfl⟩⟩
                     refine ⟨_, rfl, ?_⟩
                     obtain ⟨Ao320, co320, eo320⟩ := Kd.R_slice HOa.out
                     (first | subst eo320 | (injection eo320 with f1_ f2_ f3_; have f4_ := f1_.symm; have f5_ := f3_.symm; clear f1_ f2_ f3_; subst f4_; subst f5_))
                     obtain ⟨Ao321, co321, eo321⟩ := Kd.R_slice HOb.out
                     (first | subst eo321 | (injection eo321 with f1_ f2_ f3_; have f4_ := f1_.symm; have f5_ := f3_.symm; clear f1_ f2_ f3_; subst f4_; subst f5_))
                     refine hK.out _ _ (r5_ BK267.out) (fun hHeld => ?_)
                     clear hK K
                     refine norm_ (a' := ?_) ?_ ?_
                     rotate_left
                     · show Act.put _ (some 109) _ = _
                       simp only [Act.put, zS, zZ, zC, i64_w, i32_w]
                       rfl
                     refine put_ HT_ 7 110 (dm_ 21 255) ?_
                     refine put_ HT_ 8 111 (dm_ 21 511) ?_
                     refine put_ HT_ 9 112 (dm_ 21 1023) ?_
                     refine put_ HT_ 10 113 (dm_ 21 2047) ?_
                     refine put_ HT_ 11 114 (dm_ 21 4095) ?_
                     refine put_ HT_ 12 115 (dm_ 21 8191) ?_
                     refine put_ HT_ 13 116 (dm_ 21 16383) ?_
                     refine put_ HT_ 14 117 (dm_ 21 32767) ?_
                     refine put_ HT_ 15 118 (dm_ 21 65535) ?_
                     refine tkt_ HT_ HW_ hHeld 17 120 (dm_ 21 196607) ?_
                     refine one_ (i := 16) (N := some 119) (dm_ 21 262143) rfl rfl (one_of HT_.out (by kernel_rfl)) (by decide) (fun K hK => ?_)
                     first | refine goes_ Try.func11 (by kernel_rfl) rfl #[.pointer (some ⟨gb266, 0, none⟩)] (by rfl) rfl rfl (by (try simp only [List.map_toArray, List.map_cons, List.map_nil]); first | done | rfl | (simp only [List.length_drop, List.length_take]; rfl)) ?_ | refine goesT_ Try.func11 (by kernel_rfl) rfl #[.pointer (some ⟨gb266, 0, none⟩)] (by rfl) rfl rfl (by rfl) (by (try simp only [List.map_toArray, List.map_cons, List.map_nil]); first | done | rfl | (simp only [List.length_drop, List.length_take]; rfl)) ?_
                     with_reducible refine (snap_Snap_Own.calls gb266 Ao320 co320 X2 Xj Ao321 co321 Xh t306 _ ?side1 ?side2 ?side3 ?side4 ?side5 A315.out).mono ?_
                     (case side1 => exact (Kd.R_reads' HOa.out).2.2)
                     (case side2 => exact (Kd.R_reads' HOa.out).2.1)
                     (case side3 => exact (Kd.R_reads' HOb.out).2.2)
                     (case side4 => exact (Kd.R_reads' HOb.out).2.1)
                     (case side5 => exact blf_)
                     rintro e w' ⟨rfl, ⟨nd, rfl⟩⟩
                     refine ⟨_, rfl, ?_⟩
                     refine hK.out _ _ (r5_ BK267.out) (fun hHeld => ?_)
                     clear hK K
                     refine norm_ (a' := ?_) ?_ ?_
                     rotate_left
                     · show Act.put _ (some 119) _ = _
                       simp only [Act.put, zS, zZ, zC, i64_w, i32_w]
                       rfl
                     refine one_ (i := 18) (N := some 121) (dm_ 21 524287) rfl rfl (one_of HT_.out (by kernel_rfl)) (by decide) (fun K hK => ?_)
                     first | refine goes_ Try.func19 (by kernel_rfl) rfl #[.agg #[.bool t285, .int .i64 t286, .int .i64 t287, .int .i64 t288, .slice Ao235 t289.length co235]] (by rfl) rfl rfl (by (try simp only [List.map_toArray, List.map_cons, List.map_nil]); first | done | rfl | (simp only [List.length_drop, List.length_take]; rfl)) ?_ | refine goesT_ Try.func19 (by kernel_rfl) rfl #[.agg #[.bool t285, .int .i64 t286, .int .i64 t287, .int .i64 t288, .slice Ao235 t289.length co235]] (by rfl) rfl rfl (by rfl) (by (try simp only [List.map_toArray, List.map_cons, List.map_nil]); first | done | rfl | (simp only [List.length_drop, List.length_take]; rfl)) ?_
                     with_reducible refine (ropewayref15_Own.calls t285 t286 t287 t288 _ _ t289 t307 _ ?side1 ?side2 A316.out).mono ?_
                     (case side1 => repeat (first | exact (Kd.V_reads' HOc.out).2.2 | (with_reducible refine Kd.C_alloc ?_ _) | (with_reducible refine Kd.C_drewN ?_ _) | (with_reducible refine Kd.C_drew ?_)))
                     (case side2 => exact (Kd.V_reads' HOc.out).2.1)
                     rintro e w322 ⟨rfl, hb⟩
                     refine ⟨_, rfl, ?_⟩
                     replace HO_14 := zM (Kd.R_below (rl_ HO_14) hb)
                     replace HOa := zM (Kd.R_below (rl_ HOa) hb)
                     replace HOb := zM (Kd.R_below (rl_ HOb) hb)
                     replace HOc := zM (Kd.V_below (rv_ HOc) hb)
                     replace HO303 := zM (Kd.V_below (rv_ HO303) hb)
                     replace BK258 := zM (bb_ BK258 hb)
                     replace BK261 := zM (bb_ BK261 hb)
                     replace BK262 := zM (bb_ BK262 hb)
                     replace BK266 := zM (bb_ BK266 hb)
                     replace BK267 := zM (bb_ BK267 hb)
                     replace HB := zM (zB bel_ hb)
                     (try clear hb)
                     (try clear hb2)
                     (try clear hk)
                     (try clear hi)
                     refine hK.out _ _ (r5_ BK267.out) (fun hHeld => ?_)
                     clear hK K
                     refine norm_ (a' := ?_) ?_ ?_
                     rotate_left
                     · show Act.put _ (some 121) _ = _
                       simp only [Act.put, zS, zZ, zC, i64_w, i32_w]
                       rfl
                     refine put_ HT_ 19 122 (dm_ 21 1048575) ?_
                     refine put_ HT_ 20 123 (dm_ 21 2097151) ?_
                     refine done_ (done_of HT_.out (by kernel_rfl)) ?_
                     try go_wp2
                     go_meet
                     case rel => exact ⟨_, ((t306 != t307)), (Xj), (by first | rfl | (simp; done) | (simp [*]; done) | (simp; grind)), H', ⟨by have := HJ9.out; have := HK2.out; have := HJ70.out; have := HK4.out; have := HJ245.out; first | omega | exact Nat.le_refl _⟩, ⟨by (try simp only [hl11_4]); exact Kd.R_mono HOa.out (fun _ h => h.2)⟩, ⟨by (try simp only [hl11_4]); exact Kd.R_mono HOb.out (fun _ h => h.2)⟩, ⟨by (try simp only [hl11_4]); exact Kd.V_mono HOc.out (fun _ h => h.2)⟩, ⟨by (try simp only [hl11_4]); exact BK258.out⟩, ⟨by (try simp only [hl11_4]); exact BK261.out⟩, ⟨by (try simp only [hl11_4]); exact BK262.out⟩, ⟨by (try simp only [hl11_4]); exact BK266.out⟩, ⟨by (try simp only [hl11_4]); exact BK267.out⟩, ⟨bel_⟩⟩
                  case rest =>
                   clear HC307
                   try clear c11
                   try clear c308
                   try clear c308b0
                   try clear c308b1
                   try clear c310
                   try clear c311
                   try clear c311b0
                   try clear c311b1
                   try clear c311b2
                   obtain ⟨kq, x123_306, Xk, rfl, HA, HJ306, HOa, HOb, HOc, BK258, BK261, BK262, BK266, BK267, HB⟩ := hcut
                   cases kq with
                   | zero => exact absurd HA.out (by simp [ropewaylaw15_SnapRuns_t.j5])
                   | succ kj306 =>
                    have H := HA.out
                    clear HA
                    simp only [ropewaylaw15_SnapRuns_t.j5] at H
                    by_cases c327 : x123_306 = true
                    · subst c327
                      have H1 : (some false) = some r := by rw [if_pos rfl] at H; exact H
                      clear H
                      have H := H1
                      clear H1
                      exact absurd (Option.some.inj H) (by rw [hr1_.out]; decide)
                    replace c327 := Bool.eq_false_iff.mpr c327
                    subst c327
                    have H1 : (ropewaylaw15_SnapRuns_t.l0 kj306 l2 (l2.length : Int) (wrap64 (x65_2 + 1)) X2 Xk Xh t285 t286 t287 t288 t289) = some r := by rw [if_neg (show ¬ (false = true) by decide)] at H; exact H
                    clear H
                    have H := H1
                    clear H1
                    have H' := zM H
                    clear H
                    go_wp2
                    (try simp only [← hl11_4])
                    go_roundg kj306
                    case measure => have := HJ9.out; have := HK2.out; have := HJ70.out; have := HK4.out; have := HJ245.out; have := HJ306.out; omega
                    case rel => exact ⟨(wrap64 (x65_2 + 1)), (Xc), (Xi), (X2), (Xk), (Xh), (t285), (t286), (t287), (t288), (t289), (u267000), (u267002), (.slice Ao235 t289.length co235), (by first | rfl | (simp; done) | (simp [*]; done) | (simp; grind)), H', ⟨by have := HJ9.out; have := HK2.out; have := HJ70.out; have := HK4.out; have := HJ245.out; have := HJ306.out; omega⟩, ⟨by (try simp only [hl11_4]); exact HOa.out⟩, ⟨by (try simp only [hl11_4]); exact HOb.out⟩, ⟨by (try simp only [hl11_4]); exact HOc.out⟩, ⟨by (try simp only [hl11_4]); exact BK258.out⟩, ⟨by (try simp only [hl11_4]); exact BK261.out⟩, ⟨by (try simp only [hl11_4]); exact BK262.out⟩, ⟨by (try simp only [hl11_4]); exact BK266.out⟩, ⟨by (try simp only [hl11_4]); exact BK267.out⟩, ⟨bel_⟩⟩

end Go.Proofs.Ytoelfknhnmhlmaa.PSnapRuns
