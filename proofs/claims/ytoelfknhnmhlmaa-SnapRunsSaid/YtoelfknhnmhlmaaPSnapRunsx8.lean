/- Written by a program of this session (wip/tool/px.py) over the kit's print: what the code that the law SnapRuns reaches computes, function by function, and the law's row. -/
import Derived.Test.YtoelfknhnmhlmaaPSnapRunsx0
import Derived.Test.YtoelfknhnmhlmaaPSnapRunsx1
import Derived.Test.YtoelfknhnmhlmaaPSnapRunsx2
namespace Go.Proofs.Ytoelfknhnmhlmaa.PSnapRuns
open Go.RowKit Go.Proofs.YtoelfknhnmhlmaaX Go.Proofs.YtoelfknhnmhlmaaW.PrintWords Go.Proofs.YtoelfknhnmhlmaaW.PrintLast Go.Proofs.YtoelfknhnmhlmaaW.PrintMore
open List renaming setIfInBounds_toArray → zS, set_cons_zero → zZ, set_cons_succ → zC
open Go.Proofs.YtoelfknhnmhlmaaW.PrintWords renaming blk_drewN → zN, blk_drew → zD, blk_alloc → zA, blk_cell → zL, below_step → zB
open Go.Proofs.YtoelfknhnmhlmaaW.PrintWords.Aside0 renaming mk → zM
attribute [local go_sem] max2_int min2_int max_two min_two max_three min_three max_four min_four   -- for this text's walks alone
set_option linter.unusedVariables false
set_option linter.unusedSimpArgs false

attribute [local go_sem] px_nilq27
attribute [local go_sem high] eqA26 eqA34
/-! ### ropewayref15_Need: function 17 -/
def ropewayref15_Need.f (a0_0 : Bool) (a0_1 : Int) (a0_2 : Int) (a0_3 : Int) (l0_4 : List (List (S34))) : Option (Int × (List (S34)) × Bool) := if (l0_4.length : Int) = 0 then (some (0, ([] : List (S34)), true)) else (if 0 < (l0_4.length : Int) then (if a0_0 = true then (if (l0_4.length : Int) > 1 then (some (0, ([] : List (S34)), false)) else (if ((rd_L3 l0_4 0).length : Int) = 0 then (some (1, (([(⟨a0_1, (⟨a0_2, a0_3⟩ : S26)⟩ : S34)] : List (S34))), true)) else (some (1, rd_L3 l0_4 0, true)))) else (if ((rd_L3 l0_4 0).length : Int) = 0 then (some (0, ([] : List (S34)), false)) else (if (l0_4.length : Int) > 3 then (some (0, ([] : List (S34)), false)) else (if (l0_4.length : Int) = 1 then (some (1, rd_L3 l0_4 0, true)) else (if (l0_4.length : Int) = 2 then (some (0, ([] : List (S34)), true)) else (if 2 < (l0_4.length : Int) then (if ((rd_L3 l0_4 2).length : Int) = 0 then (some (0, ([] : List (S34)), false)) else (some (1, rd_L3 l0_4 2, true))) else (none))))))) else (none))
set_option maxHeartbeats 8000000 in
set_option maxRecDepth 100000 in
theorem ropewayref15_Need.calls (a0_0 : Bool) (a0_1 : Int) (a0_2 : Int) (a0_3 : Int) (P0_4_ : Nat → Prop) (A0_4 : Option Addr) (c0_4 : Nat) (l0_4 : List (List (S34))) (r1 : Int) (r2 : List (S34)) (r3 : Bool) (w : World) (hs0_4 : Kd.V (Kd.slice 34 k34) 27 w w.heap.size (fun k_ => P0_4_ k_) (.slice A0_4 l0_4.length c0_4) l0_4) (h : ropewayref15_Need.f a0_0 a0_1 a0_2 a0_3 l0_4 = some (r1, r2, r3)) :
    Calls Try.prog 17 #[.agg #[.bool a0_0, .int .i64 a0_1, .int .i64 a0_2, .int .i64 a0_3, .slice A0_4 l0_4.length c0_4]] w fun e w' => ∃ v1_ : Value, e = .returned (.tuple #[.int .i64 r1, v1_, .bool r3]) ∧ Kd.V k34 34 w' w.heap.size (fun k_ => (P0_4_ k_ ∨ w.heap.size ≤ k_)) v1_ r2 ∧ Below w.heap.size w w' := by
  have hu38 := Try.underlying38
  have hu34 := Try.underlying34
  have HO0_4 := zM (show Kd.V (Kd.slice 34 k34) 27 w w.heap.size (fun k_ => (P0_4_ k_ ∨ w.heap.size ≤ k_)) (.slice A0_4 l0_4.length c0_4) l0_4 from Kd.V_mono hs0_4 (fun k_ hk => .inl hk))
  have HB := zM (Below.refl w.heap.size w)
  have H : (if (l0_4.length : Int) = 0 then (some (0, ([] : List (S34)), true)) else (if 0 < (l0_4.length : Int) then (if a0_0 = true then (if (l0_4.length : Int) > 1 then (some (0, ([] : List (S34)), false)) else (if ((rd_L3 l0_4 0).length : Int) = 0 then (some (1, (([(⟨a0_1, (⟨a0_2, a0_3⟩ : S26)⟩ : S34)] : List (S34))), true)) else (some (1, rd_L3 l0_4 0, true)))) else (if ((rd_L3 l0_4 0).length : Int) = 0 then (some (0, ([] : List (S34)), false)) else (if (l0_4.length : Int) > 3 then (some (0, ([] : List (S34)), false)) else (if (l0_4.length : Int) = 1 then (some (1, rd_L3 l0_4 0, true)) else (if (l0_4.length : Int) = 2 then (some (0, ([] : List (S34)), true)) else (if 2 < (l0_4.length : Int) then (if ((rd_L3 l0_4 2).length : Int) = 0 then (some (0, ([] : List (S34)), false)) else (some (1, rd_L3 l0_4 2, true))) else (none))))))) else (none))) = some (r1, r2, r3) := h
  clear h
  by_cases c2 : (l0_4.length : Int) = 0
  · rw [if_pos c2] at H
    have c2b0 : ((l0_4.length : Int) == 0) = true := beq_iff_eq.mpr c2
    have c2b1 : ((l0_4.length : Int) != 0) = false := bne_eq_false_iff_eq.mpr c2
    clear c2
    simp only [Option.some.injEq, Prod.mk.injEq] at H
    obtain ⟨rfl, rfl, rfl⟩ := H
    go_enter Try.func17, Try.ntmps17
    go_wp2_with (first | ((with_reducible refine gate_dst (N := 1) rfl ?_); refine box_event ?hg (N := 1) ?hd (cs := #[.bool a0_0, .int .i64 a0_1, .int .i64 a0_2, .int .i64 a0_3, .slice A0_4 l0_4.length c0_4]) (t := 38) ?hr ?_; (case hd => rfl); (case hg => rfl); (case hr => first | (go_simp; done) | (go_simp; rfl)); intro gb187 hg w3 hbox hb; replace HO0_4 := zM (Kd.V_below (Kd.V_elderB (by (with_reducible repeat (first | apply Kd.V_alloc | apply Kd.V_drewN | apply Kd.V_drew)); exact HO0_4.out) gb187 (Nat.le_of_eq hg.symm)) hb); have BK187 := zM (hbox); have GW187 := zM (bs_ hg); have GE187 := zM (bs_ hg); replace HB := zM (zB bel_ hb); clear hb hbox hg; obtain ⟨hcz4_0, hcz4_1, hcz4_2, hcz4_3, hcz4_4⟩ := r5_ BK187.out; obtain ⟨hfz4_0, hfz4_1, hfz4_2, hfz4_3, hfz4_4⟩ := f5_ BK187.out))
    go_ret3
    exact ⟨_, by first | rfl | (simp [errW_none, errW_some] <;> rfl) | (simp [*, errW_none, errW_some] <;> rfl), by first | exact vr0_ (by first | exact Kd.R_nil _ _ _ _ _ | exact Kd.N_nil _ _ _ _ _ | exact Kd.V_nil _ _ _ _ _ | exact Kd.Q_nil _ _ _ _ _ | exact Kd.S_nil _ _ _ _ _) | exact vr_ (by first | exact Kd.R_nil _ _ _ _ _ | exact Kd.N_nil _ _ _ _ _ | exact Kd.V_nil _ _ _ _ _ | exact Kd.Q_nil _ _ _ _ _ | exact Kd.S_nil _ _ _ _ _), bel_⟩
  rw [if_neg c2] at H
  have c2b0 : ((l0_4.length : Int) == 0) = false := beq_eq_false_iff_ne.mpr c2
  have c2b1 : ((l0_4.length : Int) != 0) = true := bne_iff_ne.mpr c2
  have c2b2 : ¬ (l0_4 = []) := fun h_ => c2 (by rw [h_]; rfl)
  by_cases c5 : 0 < (l0_4.length : Int)
  rotate_left
  · rw [if_neg c5] at H
    exact absurd H (by simp)
  rw [if_pos c5] at H
  have c5b0 : decide (0 < (l0_4.length : Int)) = true := decide_eq_true c5
  have c5b1 : decide (0 < l0_4.length) = true := decide_eq_true (by omega)
  clear c5
  by_cases c6 : a0_0 = true
  · subst c6
    have H1 : (if (l0_4.length : Int) > 1 then (some (0, ([] : List (S34)), false)) else (if ((rd_L3 l0_4 0).length : Int) = 0 then (some (1, (([(⟨a0_1, (⟨a0_2, a0_3⟩ : S26)⟩ : S34)] : List (S34))), true)) else (some (1, rd_L3 l0_4 0, true)))) = some (r1, r2, r3) := by rw [if_pos rfl] at H; exact H
    clear H
    have H := H1
    clear H1
    by_cases c7 : (l0_4.length : Int) > 1
    · rw [if_pos c7] at H
      have c7b0 : decide (1 < (l0_4.length : Int)) = true := decide_eq_true c7
      have c7b1 : decide (1 < l0_4.length) = true := decide_eq_true (by omega)
      clear c7
      simp only [Option.some.injEq, Prod.mk.injEq] at H
      obtain ⟨rfl, rfl, rfl⟩ := H
      go_enter Try.func17, Try.ntmps17
      go_wp2_with (first | ((with_reducible refine gate_dst (N := 1) rfl ?_); refine box_event ?hg (N := 1) ?hd (cs := #[.bool true, .int .i64 a0_1, .int .i64 a0_2, .int .i64 a0_3, .slice A0_4 l0_4.length c0_4]) (t := 38) ?hr ?_; (case hd => rfl); (case hg => rfl); (case hr => first | (go_simp; done) | (go_simp; rfl)); intro gb187 hg w8 hbox hb; replace HO0_4 := zM (Kd.V_below (Kd.V_elderB (by (with_reducible repeat (first | apply Kd.V_alloc | apply Kd.V_drewN | apply Kd.V_drew)); exact HO0_4.out) gb187 (Nat.le_of_eq hg.symm)) hb); have BK187 := zM (hbox); have GW187 := zM (bs_ hg); have GE187 := zM (bs_ hg); replace HB := zM (zB bel_ hb); clear hb hbox hg; obtain ⟨hcz9_0, hcz9_1, hcz9_2, hcz9_3, hcz9_4⟩ := r5_ BK187.out; obtain ⟨hfz9_0, hfz9_1, hfz9_2, hfz9_3, hfz9_4⟩ := f5_ BK187.out; have p188 : 0 ≤ (0 : Int) := (by omega); have q188 : 0 < (l0_4.length : Int) := of_decide_eq_true (by first | (with_reducible assumption) | assumption); obtain ⟨ad188, A188_0, c188_0, e188, hx188_0, hl188_0, hi188_0⟩ := at_L3 (Kd.V_reads' HO0_4.out).2.2 0 p188 q188; cases e188; obtain ⟨ce188, hce188, hMe188, hcc188⟩ := Kd.V_get HO0_4.out [] 0 p188 (by first | exact q188 | exact of_decide_eq_true (by first | (with_reducible assumption) | assumption) | (have e_ := (Kd.V_reads' HO0_4.out).1; omega)); obtain ⟨ua188_0, uc188_0, rfl, ul188_0, ge188_0⟩ := Kd.FK_slice_open hMe188; have hv188_0 := hcc188 0 _ rfl; rw [Nat.add_zero, show ((Kd.slice 34 k34)).sz = 1 from rfl, Nat.mul_one] at hv188_0; replace hv188_0 := Option.some.inj (hv188_0.symm.trans hx188_0); injection hv188_0 with hva_ hvn_ hvc_; rw [hva_] at ge188_0; rw [hvc_] at ul188_0; have HL188_0 := zM (show Kd.V k34 34 _ w.heap.size _ _ (rd_L3 l0_4 0) from Kd.V_mk ul188_0 ge188_0); clear hva_ hvn_ hvc_ ge188_0 ul188_0; clear hcc188 hce188; have qi188 : (0 < l0_4.length) = True := eq_true (by omega); (try rw [show ((0 : Int)).toNat = 0 from rfl] at hx188_0); (try rw [Addr.add_zero'] at hx188_0); have HR188_0 := zM hi188_0; have HC188_0 := zM hl188_0; clear hi188_0 hl188_0; replace p188 := eq_true p188; replace q188 := eq_true q188))
      go_ret3
      exact ⟨_, by first | rfl | (simp [errW_none, errW_some] <;> rfl) | (simp [*, errW_none, errW_some] <;> rfl), by first | exact vr0_ (by first | exact Kd.R_nil _ _ _ _ _ | exact Kd.N_nil _ _ _ _ _ | exact Kd.V_nil _ _ _ _ _ | exact Kd.Q_nil _ _ _ _ _ | exact Kd.S_nil _ _ _ _ _) | exact vr_ (by first | exact Kd.R_nil _ _ _ _ _ | exact Kd.N_nil _ _ _ _ _ | exact Kd.V_nil _ _ _ _ _ | exact Kd.Q_nil _ _ _ _ _ | exact Kd.S_nil _ _ _ _ _), bel_⟩
    rw [if_neg c7] at H
    have c7b0 : decide (1 < (l0_4.length : Int)) = false := decide_eq_false c7
    have c7b1 : decide (1 < l0_4.length) = false := decide_eq_false (by omega)
    clear c7
    by_cases c10 : ((rd_L3 l0_4 0).length : Int) = 0
    rotate_left
    · rw [if_neg c10] at H
      have c10b0 : (((rd_L3 l0_4 0).length : Int) == 0) = false := beq_eq_false_iff_ne.mpr c10
      have c10b1 : (((rd_L3 l0_4 0).length : Int) != 0) = true := bne_iff_ne.mpr c10
      have c10b2 : ¬ ((rd_L3 l0_4 0) = []) := fun h_ => c10 (by rw [h_]; rfl)
      simp only [Option.some.injEq, Prod.mk.injEq] at H
      obtain ⟨rfl, rfl, rfl⟩ := H
      go_enter Try.func17, Try.ntmps17
      go_wp2_with (first | ((with_reducible refine gate_dst (N := 1) rfl ?_); refine box_event ?hg (N := 1) ?hd (cs := #[.bool true, .int .i64 a0_1, .int .i64 a0_2, .int .i64 a0_3, .slice A0_4 l0_4.length c0_4]) (t := 38) ?hr ?_; (case hd => rfl); (case hg => rfl); (case hr => first | (go_simp; done) | (go_simp; rfl)); intro gb187 hg w16 hbox hb; replace HO0_4 := zM (Kd.V_below (Kd.V_elderB (by (with_reducible repeat (first | apply Kd.V_alloc | apply Kd.V_drewN | apply Kd.V_drew)); exact HO0_4.out) gb187 (Nat.le_of_eq hg.symm)) hb); have BK187 := zM (hbox); have GW187 := zM (bs_ hg); have GE187 := zM (bs_ hg); replace HB := zM (zB bel_ hb); clear hb hbox hg; obtain ⟨hcz17_0, hcz17_1, hcz17_2, hcz17_3, hcz17_4⟩ := r5_ BK187.out; obtain ⟨hfz17_0, hfz17_1, hfz17_2, hfz17_3, hfz17_4⟩ := f5_ BK187.out; have p188 : 0 ≤ (0 : Int) := (by omega); have q188 : 0 < (l0_4.length : Int) := of_decide_eq_true (by first | (with_reducible assumption) | assumption); obtain ⟨ad188, A188_0, c188_0, e188, hx188_0, hl188_0, hi188_0⟩ := at_L3 (Kd.V_reads' HO0_4.out).2.2 0 p188 q188; cases e188; obtain ⟨ce188, hce188, hMe188, hcc188⟩ := Kd.V_get HO0_4.out [] 0 p188 (by first | exact q188 | exact of_decide_eq_true (by first | (with_reducible assumption) | assumption) | (have e_ := (Kd.V_reads' HO0_4.out).1; omega)); obtain ⟨ua188_0, uc188_0, rfl, ul188_0, ge188_0⟩ := Kd.FK_slice_open hMe188; have hv188_0 := hcc188 0 _ rfl; rw [Nat.add_zero, show ((Kd.slice 34 k34)).sz = 1 from rfl, Nat.mul_one] at hv188_0; replace hv188_0 := Option.some.inj (hv188_0.symm.trans hx188_0); injection hv188_0 with hva_ hvn_ hvc_; rw [hva_] at ge188_0; rw [hvc_] at ul188_0; have HL188_0 := zM (show Kd.V k34 34 _ w.heap.size _ _ (rd_L3 l0_4 0) from Kd.V_mk ul188_0 ge188_0); clear hva_ hvn_ hvc_ ge188_0 ul188_0; clear hcc188 hce188; have qi188 : (0 < l0_4.length) = True := eq_true (by omega); (try rw [show ((0 : Int)).toNat = 0 from rfl] at hx188_0); (try rw [Addr.add_zero'] at hx188_0); have HR188_0 := zM hi188_0; have HC188_0 := zM hl188_0; clear hi188_0 hl188_0; replace p188 := eq_true p188; replace q188 := eq_true q188))
      go_ret3
      exact ⟨_, by first | rfl | (simp [errW_none, errW_some] <;> rfl) | (simp [*, errW_none, errW_some] <;> rfl), by (with_reducible repeat (first | apply Kd.V_alloc | apply Kd.V_drewN | apply Kd.V_drew)); exact Kd.V_mono HL188_0.out (fun _ hk => hk.1), bel_⟩
    rw [if_pos c10] at H
    have c10b0 : (((rd_L3 l0_4 0).length : Int) == 0) = true := beq_iff_eq.mpr c10
    have c10b1 : (((rd_L3 l0_4 0).length : Int) != 0) = false := bne_eq_false_iff_eq.mpr c10
    clear c10
    obtain ⟨y189, hy189⟩ : ∃ y_ : List (S34), y_ = (([(⟨a0_1, (⟨a0_2, a0_3⟩ : S26)⟩ : S34)] : List (S34))) := ⟨_, rfl⟩
    replace H : (some (1, y189, true)) = some (r1, r2, r3) := by first | (rw [hy189]; with_reducible exact H) | (have H2_ := (Option.bind_some _ _).symm.trans H; rw [hy189]; with_reducible exact H2_) | (have H2_ := (Option.bind_some _ _).symm.trans H; with_reducible exact H2_) | with_reducible exact H | (rw [hy189]; exact H) | exact H
    have Ny189 := zM hy189
    clear hy189
    simp only [Option.some.injEq, Prod.mk.injEq] at H
    obtain ⟨rfl, rfl, rfl⟩ := H
    go_enter Try.func17, Try.ntmps17
    try go_wp2_with (first | ((with_reducible refine gate_dst (N := 1) rfl ?_); refine box_event ?hg (N := 1) ?hd (cs := #[.bool true, .int .i64 a0_1, .int .i64 a0_2, .int .i64 a0_3, .slice A0_4 l0_4.length c0_4]) (t := 38) ?hr ?_; (case hd => rfl); (case hg => rfl); (case hr => first | (go_simp; done) | (go_simp; rfl)); intro gb187 hg w11 hbox hb; replace HO0_4 := zM (Kd.V_below (Kd.V_elderB (by (with_reducible repeat (first | apply Kd.V_alloc | apply Kd.V_drewN | apply Kd.V_drew)); exact HO0_4.out) gb187 (Nat.le_of_eq hg.symm)) hb); have BK187 := zM (hbox); have GW187 := zM (bs_ hg); have GE187 := zM (bs_ hg); replace HB := zM (zB bel_ hb); clear hb hbox hg; obtain ⟨hcz12_0, hcz12_1, hcz12_2, hcz12_3, hcz12_4⟩ := r5_ BK187.out; obtain ⟨hfz12_0, hfz12_1, hfz12_2, hfz12_3, hfz12_4⟩ := f5_ BK187.out; have p188 : 0 ≤ (0 : Int) := (by omega); have q188 : 0 < (l0_4.length : Int) := of_decide_eq_true (by first | (with_reducible assumption) | assumption); obtain ⟨ad188, A188_0, c188_0, e188, hx188_0, hl188_0, hi188_0⟩ := at_L3 (Kd.V_reads' HO0_4.out).2.2 0 p188 q188; cases e188; obtain ⟨ce188, hce188, hMe188, hcc188⟩ := Kd.V_get HO0_4.out [] 0 p188 (by first | exact q188 | exact of_decide_eq_true (by first | (with_reducible assumption) | assumption) | (have e_ := (Kd.V_reads' HO0_4.out).1; omega)); obtain ⟨ua188_0, uc188_0, rfl, ul188_0, ge188_0⟩ := Kd.FK_slice_open hMe188; have hv188_0 := hcc188 0 _ rfl; rw [Nat.add_zero, show ((Kd.slice 34 k34)).sz = 1 from rfl, Nat.mul_one] at hv188_0; replace hv188_0 := Option.some.inj (hv188_0.symm.trans hx188_0); injection hv188_0 with hva_ hvn_ hvc_; rw [hva_] at ge188_0; rw [hvc_] at ul188_0; have HL188_0 := zM (show Kd.V k34 34 _ w.heap.size _ _ (rd_L3 l0_4 0) from Kd.V_mk ul188_0 ge188_0); clear hva_ hvn_ hvc_ ge188_0 ul188_0; clear hcc188 hce188; have qi188 : (0 < l0_4.length) = True := eq_true (by omega); (try rw [show ((0 : Int)).toNat = 0 from rfl] at hx188_0); (try rw [Addr.add_zero'] at hx188_0); have HR188_0 := zM hi188_0; have HC188_0 := zM hl188_0; clear hi188_0 hl188_0; replace p188 := eq_true p188; replace q188 := eq_true q188))
    replace HO0_4 := zM (Kd.V_drew HO0_4.out)
    replace HL188_0 := zM (Kd.V_drew HL188_0.out)
    replace BK187 := zM (zD BK187.out)
    replace HR188_0 := zM (Kd.C_drew HR188_0.out)
    replace HB := zM (below_drew1 HB.out)
    refine start_ (n := 6) (S := fun w' => w'.cell? ⟨gb187, 0, none⟩ = some (.bool true) ∧ w'.cell? ⟨gb187, 1, none⟩ = some (.int .i64 a0_1) ∧ w'.cell? ⟨gb187, 2, none⟩ = some (.int .i64 a0_2) ∧ w'.cell? ⟨gb187, 3, none⟩ = some (.int .i64 a0_3) ∧ w'.cell? ⟨gb187, 4, none⟩ = some (.slice (some ad188) l0_4.length c0_4)) (ds := []) #[F_, F_, F_, F_, F_, F_] (by kernel_rfl) rfl rfl ⟨(zL BK187.out 0).trans rfl, (zL BK187.out 1).trans rfl, (zL BK187.out 2).trans rfl, (zL BK187.out 3).trans rfl, (zL BK187.out 4).trans rfl⟩ (fun hHeld => ?_)
    generalize w11.drew = w13 at HO0_4 HL188_0 BK187 HR188_0 HB hHeld ⊢
    refine pu_ 0 23 (dm_ 6 1) ?_
    refine pu_ 3 2 (dm_ 6 9) ?_
    refine tk_ hHeld 1 24 (dm_ 6 11) ?_
    refine one_ (i := 2) (N := some 25) (dm_ 6 15) rfl rfl (by kernel_rfl) (by decide) (fun K hK => ?_)
    refine Kd.R_lit_step k34 _ 34 ?hg (N := 25) ?hd (xs := ([(⟨a0_1, (⟨a0_2, a0_3⟩ : S26)⟩ : S34)] : List (S34))) (inner := [.int .i64 a0_1, .int .i64 a0_2, .int .i64 a0_3]) (ok := fun _ => True) (okp := fun _ => True) ?hr ?hp (fun _ hk => hk) trivial (Below.refl _ _) (Nat.le_refl _) (by simp) ?_; (case hd => rfl); (case hg => rfl); (case hr => first | (go_simp; done) | (go_simp; rfl)); (case hp => exact (Reps.c3 (show Kd.M k34 _ _ _ (⟨a0_1, (⟨a0_2, a0_3⟩ : S26)⟩ : S34) [.int .i64 a0_1, .int .i64 a0_2, .int .i64 a0_3] from (k34_mkM _ _ _ (⟨a0_1, (⟨a0_2, a0_3⟩ : S26)⟩ : S34) )) (Reps.none _ _)))
    intro v190 w14 ho15 hb hg_ hnew_
    clear hg_ hnew_
    (first | rw [← Ny189.out] at ho15 | (simp only [Int.reduceToNat] at ho15; rw [← Ny189.out] at ho15))
    replace HO0_4 := zM (Kd.V_elder' (by (with_reducible repeat (first | apply Kd.V_alloc | apply Kd.V_drewN | apply Kd.V_drew)); exact HO0_4.out) (Kd.R_base ho15) hb)
    replace HL188_0 := zM (Kd.V_elder' (by (with_reducible repeat (first | apply Kd.V_alloc | apply Kd.V_drewN | apply Kd.V_drew)); exact HL188_0.out) (Kd.R_base ho15) hb)
    have HO191 := zM (Kd.R_lower (Kd.R_newM (M := fun k_ => (w.heap.size ≤ k_)) ho15 (below_size bel_) (fun k_ h_ => h_)) (below_size bel_))
    replace BK187 := zM (bb_ BK187 hb)
    replace HR188_0 := zM (Kd.C_below (by repeat (first | (with_reducible exact HR188_0.out) | (with_reducible refine Kd.C_alloc ?_ _) | (with_reducible refine Kd.C_drewN ?_ _) | (with_reducible refine Kd.C_drew ?_) | exact HR188_0.out)) hb)
    replace HB := zM (zB bel_ hb)
    clear hb ho15
    refine hK.out _ _ ⟨(zL BK187.out 0).trans rfl, (zL BK187.out 1).trans rfl, (zL BK187.out 2).trans rfl, (zL BK187.out 3).trans rfl, (zL BK187.out 4).trans rfl⟩ (fun hHeld => ?_)
    clear hK K
    refine norm_ (a' := ?_) ?_ ?_
    rotate_left
    · show Act.put _ (some 25) _ = _
      simp only [Act.put, zS, zZ, zC, i64_w, i32_w]
      rfl
    refine pu_ 4 3 (dm_ 6 31) ?_
    refine pu_ 5 4 (dm_ 6 63) ?_
    refine done_ (by kernel_rfl) ?_
    try go_wp2
    go_ret3
    exact ⟨_, by first | rfl | (simp [errW_none, errW_some] <;> rfl) | (simp [*, errW_none, errW_some] <;> rfl), by first | exact vr0_ (by (with_reducible repeat (first | apply Kd.R_alloc | apply Kd.R_drewN | apply Kd.R_drew)); exact Kd.R_mono HO191.out (fun _ hk => hk.1)) | exact vr_ (by (with_reducible repeat (first | apply Kd.R_alloc | apply Kd.R_drewN | apply Kd.R_drew)); exact Kd.R_mono HO191.out (fun _ hk => hk.1)), bel_⟩
  replace c6 := Bool.eq_false_iff.mpr c6
  subst c6
  have H1 : (if ((rd_L3 l0_4 0).length : Int) = 0 then (some (0, ([] : List (S34)), false)) else (if (l0_4.length : Int) > 3 then (some (0, ([] : List (S34)), false)) else (if (l0_4.length : Int) = 1 then (some (1, rd_L3 l0_4 0, true)) else (if (l0_4.length : Int) = 2 then (some (0, ([] : List (S34)), true)) else (if 2 < (l0_4.length : Int) then (if ((rd_L3 l0_4 2).length : Int) = 0 then (some (0, ([] : List (S34)), false)) else (some (1, rd_L3 l0_4 2, true))) else (none)))))) = some (r1, r2, r3) := by rw [if_neg (show ¬ (false = true) by decide)] at H; exact H
  clear H
  have H := H1
  clear H1
  by_cases c18 : ((rd_L3 l0_4 0).length : Int) = 0
  · rw [if_pos c18] at H
    have c18b0 : (((rd_L3 l0_4 0).length : Int) == 0) = true := beq_iff_eq.mpr c18
    have c18b1 : (((rd_L3 l0_4 0).length : Int) != 0) = false := bne_eq_false_iff_eq.mpr c18
    clear c18
    simp only [Option.some.injEq, Prod.mk.injEq] at H
    obtain ⟨rfl, rfl, rfl⟩ := H
    go_enter Try.func17, Try.ntmps17
    go_wp2_with (first | ((with_reducible refine gate_dst (N := 1) rfl ?_); refine box_event ?hg (N := 1) ?hd (cs := #[.bool false, .int .i64 a0_1, .int .i64 a0_2, .int .i64 a0_3, .slice A0_4 l0_4.length c0_4]) (t := 38) ?hr ?_; (case hd => rfl); (case hg => rfl); (case hr => first | (go_simp; done) | (go_simp; rfl)); intro gb187 hg w19 hbox hb; replace HO0_4 := zM (Kd.V_below (Kd.V_elderB (by (with_reducible repeat (first | apply Kd.V_alloc | apply Kd.V_drewN | apply Kd.V_drew)); exact HO0_4.out) gb187 (Nat.le_of_eq hg.symm)) hb); have BK187 := zM (hbox); have GW187 := zM (bs_ hg); have GE187 := zM (bs_ hg); replace HB := zM (zB bel_ hb); clear hb hbox hg; obtain ⟨hcz20_0, hcz20_1, hcz20_2, hcz20_3, hcz20_4⟩ := r5_ BK187.out; obtain ⟨hfz20_0, hfz20_1, hfz20_2, hfz20_3, hfz20_4⟩ := f5_ BK187.out; have p188 : 0 ≤ (0 : Int) := (by omega); have q188 : 0 < (l0_4.length : Int) := of_decide_eq_true (by first | (with_reducible assumption) | assumption); obtain ⟨ad188, A188_0, c188_0, e188, hx188_0, hl188_0, hi188_0⟩ := at_L3 (Kd.V_reads' HO0_4.out).2.2 0 p188 q188; cases e188; obtain ⟨ce188, hce188, hMe188, hcc188⟩ := Kd.V_get HO0_4.out [] 0 p188 (by first | exact q188 | exact of_decide_eq_true (by first | (with_reducible assumption) | assumption) | (have e_ := (Kd.V_reads' HO0_4.out).1; omega)); obtain ⟨ua188_0, uc188_0, rfl, ul188_0, ge188_0⟩ := Kd.FK_slice_open hMe188; have hv188_0 := hcc188 0 _ rfl; rw [Nat.add_zero, show ((Kd.slice 34 k34)).sz = 1 from rfl, Nat.mul_one] at hv188_0; replace hv188_0 := Option.some.inj (hv188_0.symm.trans hx188_0); injection hv188_0 with hva_ hvn_ hvc_; rw [hva_] at ge188_0; rw [hvc_] at ul188_0; have HL188_0 := zM (show Kd.V k34 34 _ w.heap.size _ _ (rd_L3 l0_4 0) from Kd.V_mk ul188_0 ge188_0); clear hva_ hvn_ hvc_ ge188_0 ul188_0; clear hcc188 hce188; have qi188 : (0 < l0_4.length) = True := eq_true (by omega); (try rw [show ((0 : Int)).toNat = 0 from rfl] at hx188_0); (try rw [Addr.add_zero'] at hx188_0); have HR188_0 := zM hi188_0; have HC188_0 := zM hl188_0; clear hi188_0 hl188_0; replace p188 := eq_true p188; replace q188 := eq_true q188))
    go_ret3
    exact ⟨_, by first | rfl | (simp [errW_none, errW_some] <;> rfl) | (simp [*, errW_none, errW_some] <;> rfl), by first | exact vr0_ (by first | exact Kd.R_nil _ _ _ _ _ | exact Kd.N_nil _ _ _ _ _ | exact Kd.V_nil _ _ _ _ _ | exact Kd.Q_nil _ _ _ _ _ | exact Kd.S_nil _ _ _ _ _) | exact vr_ (by first | exact Kd.R_nil _ _ _ _ _ | exact Kd.N_nil _ _ _ _ _ | exact Kd.V_nil _ _ _ _ _ | exact Kd.Q_nil _ _ _ _ _ | exact Kd.S_nil _ _ _ _ _), bel_⟩
  rw [if_neg c18] at H
  have c18b0 : (((rd_L3 l0_4 0).length : Int) == 0) = false := beq_eq_false_iff_ne.mpr c18
  have c18b1 : (((rd_L3 l0_4 0).length : Int) != 0) = true := bne_iff_ne.mpr c18
  have c18b2 : ¬ ((rd_L3 l0_4 0) = []) := fun h_ => c18 (by rw [h_]; rfl)
  by_cases c21 : (l0_4.length : Int) > 3
  · rw [if_pos c21] at H
    have c21b0 : decide (3 < (l0_4.length : Int)) = true := decide_eq_true c21
    have c21b1 : decide (3 < l0_4.length) = true := decide_eq_true (by omega)
    clear c21
    simp only [Option.some.injEq, Prod.mk.injEq] at H
    obtain ⟨rfl, rfl, rfl⟩ := H
    go_enter Try.func17, Try.ntmps17
    go_wp2_with (first | ((with_reducible refine gate_dst (N := 1) rfl ?_); refine box_event ?hg (N := 1) ?hd (cs := #[.bool false, .int .i64 a0_1, .int .i64 a0_2, .int .i64 a0_3, .slice A0_4 l0_4.length c0_4]) (t := 38) ?hr ?_; (case hd => rfl); (case hg => rfl); (case hr => first | (go_simp; done) | (go_simp; rfl)); intro gb187 hg w22 hbox hb; replace HO0_4 := zM (Kd.V_below (Kd.V_elderB (by (with_reducible repeat (first | apply Kd.V_alloc | apply Kd.V_drewN | apply Kd.V_drew)); exact HO0_4.out) gb187 (Nat.le_of_eq hg.symm)) hb); have BK187 := zM (hbox); have GW187 := zM (bs_ hg); have GE187 := zM (bs_ hg); replace HB := zM (zB bel_ hb); clear hb hbox hg; obtain ⟨hcz23_0, hcz23_1, hcz23_2, hcz23_3, hcz23_4⟩ := r5_ BK187.out; obtain ⟨hfz23_0, hfz23_1, hfz23_2, hfz23_3, hfz23_4⟩ := f5_ BK187.out; have p188 : 0 ≤ (0 : Int) := (by omega); have q188 : 0 < (l0_4.length : Int) := of_decide_eq_true (by first | (with_reducible assumption) | assumption); obtain ⟨ad188, A188_0, c188_0, e188, hx188_0, hl188_0, hi188_0⟩ := at_L3 (Kd.V_reads' HO0_4.out).2.2 0 p188 q188; cases e188; obtain ⟨ce188, hce188, hMe188, hcc188⟩ := Kd.V_get HO0_4.out [] 0 p188 (by first | exact q188 | exact of_decide_eq_true (by first | (with_reducible assumption) | assumption) | (have e_ := (Kd.V_reads' HO0_4.out).1; omega)); obtain ⟨ua188_0, uc188_0, rfl, ul188_0, ge188_0⟩ := Kd.FK_slice_open hMe188; have hv188_0 := hcc188 0 _ rfl; rw [Nat.add_zero, show ((Kd.slice 34 k34)).sz = 1 from rfl, Nat.mul_one] at hv188_0; replace hv188_0 := Option.some.inj (hv188_0.symm.trans hx188_0); injection hv188_0 with hva_ hvn_ hvc_; rw [hva_] at ge188_0; rw [hvc_] at ul188_0; have HL188_0 := zM (show Kd.V k34 34 _ w.heap.size _ _ (rd_L3 l0_4 0) from Kd.V_mk ul188_0 ge188_0); clear hva_ hvn_ hvc_ ge188_0 ul188_0; clear hcc188 hce188; have qi188 : (0 < l0_4.length) = True := eq_true (by omega); (try rw [show ((0 : Int)).toNat = 0 from rfl] at hx188_0); (try rw [Addr.add_zero'] at hx188_0); have HR188_0 := zM hi188_0; have HC188_0 := zM hl188_0; clear hi188_0 hl188_0; replace p188 := eq_true p188; replace q188 := eq_true q188))
    go_ret3
    exact ⟨_, by first | rfl | (simp [errW_none, errW_some] <;> rfl) | (simp [*, errW_none, errW_some] <;> rfl), by first | exact vr0_ (by first | exact Kd.R_nil _ _ _ _ _ | exact Kd.N_nil _ _ _ _ _ | exact Kd.V_nil _ _ _ _ _ | exact Kd.Q_nil _ _ _ _ _ | exact Kd.S_nil _ _ _ _ _) | exact vr_ (by first | exact Kd.R_nil _ _ _ _ _ | exact Kd.N_nil _ _ _ _ _ | exact Kd.V_nil _ _ _ _ _ | exact Kd.Q_nil _ _ _ _ _ | exact Kd.S_nil _ _ _ _ _), bel_⟩
  rw [if_neg c21] at H
  have c21b0 : decide (3 < (l0_4.length : Int)) = false := decide_eq_false c21
  have c21b1 : decide (3 < l0_4.length) = false := decide_eq_false (by omega)
  clear c21
  by_cases c24 : (l0_4.length : Int) = 1
  · rw [if_pos c24] at H
    have c24b0 : ((l0_4.length : Int) == 1) = true := beq_iff_eq.mpr c24
    have c24b1 : ((l0_4.length : Int) != 1) = false := bne_eq_false_iff_eq.mpr c24
    clear c24
    simp only [Option.some.injEq, Prod.mk.injEq] at H
    obtain ⟨rfl, rfl, rfl⟩ := H
    go_enter Try.func17, Try.ntmps17
    go_wp2_with (first | ((with_reducible refine gate_dst (N := 1) rfl ?_); refine box_event ?hg (N := 1) ?hd (cs := #[.bool false, .int .i64 a0_1, .int .i64 a0_2, .int .i64 a0_3, .slice A0_4 l0_4.length c0_4]) (t := 38) ?hr ?_; (case hd => rfl); (case hg => rfl); (case hr => first | (go_simp; done) | (go_simp; rfl)); intro gb187 hg w25 hbox hb; replace HO0_4 := zM (Kd.V_below (Kd.V_elderB (by (with_reducible repeat (first | apply Kd.V_alloc | apply Kd.V_drewN | apply Kd.V_drew)); exact HO0_4.out) gb187 (Nat.le_of_eq hg.symm)) hb); have BK187 := zM (hbox); have GW187 := zM (bs_ hg); have GE187 := zM (bs_ hg); replace HB := zM (zB bel_ hb); clear hb hbox hg; obtain ⟨hcz26_0, hcz26_1, hcz26_2, hcz26_3, hcz26_4⟩ := r5_ BK187.out; obtain ⟨hfz26_0, hfz26_1, hfz26_2, hfz26_3, hfz26_4⟩ := f5_ BK187.out; have p188 : 0 ≤ (0 : Int) := (by omega); have q188 : 0 < (l0_4.length : Int) := of_decide_eq_true (by first | (with_reducible assumption) | assumption); obtain ⟨ad188, A188_0, c188_0, e188, hx188_0, hl188_0, hi188_0⟩ := at_L3 (Kd.V_reads' HO0_4.out).2.2 0 p188 q188; cases e188; obtain ⟨ce188, hce188, hMe188, hcc188⟩ := Kd.V_get HO0_4.out [] 0 p188 (by first | exact q188 | exact of_decide_eq_true (by first | (with_reducible assumption) | assumption) | (have e_ := (Kd.V_reads' HO0_4.out).1; omega)); obtain ⟨ua188_0, uc188_0, rfl, ul188_0, ge188_0⟩ := Kd.FK_slice_open hMe188; have hv188_0 := hcc188 0 _ rfl; rw [Nat.add_zero, show ((Kd.slice 34 k34)).sz = 1 from rfl, Nat.mul_one] at hv188_0; replace hv188_0 := Option.some.inj (hv188_0.symm.trans hx188_0); injection hv188_0 with hva_ hvn_ hvc_; rw [hva_] at ge188_0; rw [hvc_] at ul188_0; have HL188_0 := zM (show Kd.V k34 34 _ w.heap.size _ _ (rd_L3 l0_4 0) from Kd.V_mk ul188_0 ge188_0); clear hva_ hvn_ hvc_ ge188_0 ul188_0; clear hcc188 hce188; have qi188 : (0 < l0_4.length) = True := eq_true (by omega); (try rw [show ((0 : Int)).toNat = 0 from rfl] at hx188_0); (try rw [Addr.add_zero'] at hx188_0); have HR188_0 := zM hi188_0; have HC188_0 := zM hl188_0; clear hi188_0 hl188_0; replace p188 := eq_true p188; replace q188 := eq_true q188))
    go_ret3
    exact ⟨_, by first | rfl | (simp [errW_none, errW_some] <;> rfl) | (simp [*, errW_none, errW_some] <;> rfl), by (with_reducible repeat (first | apply Kd.V_alloc | apply Kd.V_drewN | apply Kd.V_drew)); exact Kd.V_mono HL188_0.out (fun _ hk => hk.1), bel_⟩
  rw [if_neg c24] at H
  have c24b0 : ((l0_4.length : Int) == 1) = false := beq_eq_false_iff_ne.mpr c24
  have c24b1 : ((l0_4.length : Int) != 1) = true := bne_iff_ne.mpr c24
  by_cases c27 : (l0_4.length : Int) = 2
  · rw [if_pos c27] at H
    have c27b0 : ((l0_4.length : Int) == 2) = true := beq_iff_eq.mpr c27
    have c27b1 : ((l0_4.length : Int) != 2) = false := bne_eq_false_iff_eq.mpr c27
    clear c27
    simp only [Option.some.injEq, Prod.mk.injEq] at H
    obtain ⟨rfl, rfl, rfl⟩ := H
    go_enter Try.func17, Try.ntmps17
    go_wp2_with (first | ((with_reducible refine gate_dst (N := 1) rfl ?_); refine box_event ?hg (N := 1) ?hd (cs := #[.bool false, .int .i64 a0_1, .int .i64 a0_2, .int .i64 a0_3, .slice A0_4 l0_4.length c0_4]) (t := 38) ?hr ?_; (case hd => rfl); (case hg => rfl); (case hr => first | (go_simp; done) | (go_simp; rfl)); intro gb187 hg w28 hbox hb; replace HO0_4 := zM (Kd.V_below (Kd.V_elderB (by (with_reducible repeat (first | apply Kd.V_alloc | apply Kd.V_drewN | apply Kd.V_drew)); exact HO0_4.out) gb187 (Nat.le_of_eq hg.symm)) hb); have BK187 := zM (hbox); have GW187 := zM (bs_ hg); have GE187 := zM (bs_ hg); replace HB := zM (zB bel_ hb); clear hb hbox hg; obtain ⟨hcz29_0, hcz29_1, hcz29_2, hcz29_3, hcz29_4⟩ := r5_ BK187.out; obtain ⟨hfz29_0, hfz29_1, hfz29_2, hfz29_3, hfz29_4⟩ := f5_ BK187.out; have p188 : 0 ≤ (0 : Int) := (by omega); have q188 : 0 < (l0_4.length : Int) := of_decide_eq_true (by first | (with_reducible assumption) | assumption); obtain ⟨ad188, A188_0, c188_0, e188, hx188_0, hl188_0, hi188_0⟩ := at_L3 (Kd.V_reads' HO0_4.out).2.2 0 p188 q188; cases e188; obtain ⟨ce188, hce188, hMe188, hcc188⟩ := Kd.V_get HO0_4.out [] 0 p188 (by first | exact q188 | exact of_decide_eq_true (by first | (with_reducible assumption) | assumption) | (have e_ := (Kd.V_reads' HO0_4.out).1; omega)); obtain ⟨ua188_0, uc188_0, rfl, ul188_0, ge188_0⟩ := Kd.FK_slice_open hMe188; have hv188_0 := hcc188 0 _ rfl; rw [Nat.add_zero, show ((Kd.slice 34 k34)).sz = 1 from rfl, Nat.mul_one] at hv188_0; replace hv188_0 := Option.some.inj (hv188_0.symm.trans hx188_0); injection hv188_0 with hva_ hvn_ hvc_; rw [hva_] at ge188_0; rw [hvc_] at ul188_0; have HL188_0 := zM (show Kd.V k34 34 _ w.heap.size _ _ (rd_L3 l0_4 0) from Kd.V_mk ul188_0 ge188_0); clear hva_ hvn_ hvc_ ge188_0 ul188_0; clear hcc188 hce188; have qi188 : (0 < l0_4.length) = True := eq_true (by omega); (try rw [show ((0 : Int)).toNat = 0 from rfl] at hx188_0); (try rw [Addr.add_zero'] at hx188_0); have HR188_0 := zM hi188_0; have HC188_0 := zM hl188_0; clear hi188_0 hl188_0; replace p188 := eq_true p188; replace q188 := eq_true q188))
    go_ret3
    exact ⟨_, by first | rfl | (simp [errW_none, errW_some] <;> rfl) | (simp [*, errW_none, errW_some] <;> rfl), by first | exact vr0_ (by first | exact Kd.R_nil _ _ _ _ _ | exact Kd.N_nil _ _ _ _ _ | exact Kd.V_nil _ _ _ _ _ | exact Kd.Q_nil _ _ _ _ _ | exact Kd.S_nil _ _ _ _ _) | exact vr_ (by first | exact Kd.R_nil _ _ _ _ _ | exact Kd.N_nil _ _ _ _ _ | exact Kd.V_nil _ _ _ _ _ | exact Kd.Q_nil _ _ _ _ _ | exact Kd.S_nil _ _ _ _ _), bel_⟩
  rw [if_neg c27] at H
  have c27b0 : ((l0_4.length : Int) == 2) = false := beq_eq_false_iff_ne.mpr c27
  have c27b1 : ((l0_4.length : Int) != 2) = true := bne_iff_ne.mpr c27
  by_cases c30 : 2 < (l0_4.length : Int)
  rotate_left
  · rw [if_neg c30] at H
    exact absurd H (by simp)
  rw [if_pos c30] at H
  have c30b0 : decide (2 < (l0_4.length : Int)) = true := decide_eq_true c30
  have c30b1 : decide (2 < l0_4.length) = true := decide_eq_true (by omega)
  clear c30
  by_cases c31 : ((rd_L3 l0_4 2).length : Int) = 0
  · rw [if_pos c31] at H
    have c31b0 : (((rd_L3 l0_4 2).length : Int) == 0) = true := beq_iff_eq.mpr c31
    have c31b1 : (((rd_L3 l0_4 2).length : Int) != 0) = false := bne_eq_false_iff_eq.mpr c31
    clear c31
    simp only [Option.some.injEq, Prod.mk.injEq] at H
    obtain ⟨rfl, rfl, rfl⟩ := H
    go_enter Try.func17, Try.ntmps17
    go_wp2_with (first | ((with_reducible refine gate_dst (N := 1) rfl ?_); refine box_event ?hg (N := 1) ?hd (cs := #[.bool false, .int .i64 a0_1, .int .i64 a0_2, .int .i64 a0_3, .slice A0_4 l0_4.length c0_4]) (t := 38) ?hr ?_; (case hd => rfl); (case hg => rfl); (case hr => first | (go_simp; done) | (go_simp; rfl)); intro gb187 hg w32 hbox hb; replace HO0_4 := zM (Kd.V_below (Kd.V_elderB (by (with_reducible repeat (first | apply Kd.V_alloc | apply Kd.V_drewN | apply Kd.V_drew)); exact HO0_4.out) gb187 (Nat.le_of_eq hg.symm)) hb); have BK187 := zM (hbox); have GW187 := zM (bs_ hg); have GE187 := zM (bs_ hg); replace HB := zM (zB bel_ hb); clear hb hbox hg; obtain ⟨hcz33_0, hcz33_1, hcz33_2, hcz33_3, hcz33_4⟩ := r5_ BK187.out; obtain ⟨hfz33_0, hfz33_1, hfz33_2, hfz33_3, hfz33_4⟩ := f5_ BK187.out; have p188 : 0 ≤ (0 : Int) := (by omega); have q188 : 0 < (l0_4.length : Int) := of_decide_eq_true (by first | (with_reducible assumption) | assumption); obtain ⟨ad188, A188_0, c188_0, e188, hx188_0, hl188_0, hi188_0⟩ := at_L3 (Kd.V_reads' HO0_4.out).2.2 0 p188 q188; cases e188; obtain ⟨ce188, hce188, hMe188, hcc188⟩ := Kd.V_get HO0_4.out [] 0 p188 (by first | exact q188 | exact of_decide_eq_true (by first | (with_reducible assumption) | assumption) | (have e_ := (Kd.V_reads' HO0_4.out).1; omega)); obtain ⟨ua188_0, uc188_0, rfl, ul188_0, ge188_0⟩ := Kd.FK_slice_open hMe188; have hv188_0 := hcc188 0 _ rfl; rw [Nat.add_zero, show ((Kd.slice 34 k34)).sz = 1 from rfl, Nat.mul_one] at hv188_0; replace hv188_0 := Option.some.inj (hv188_0.symm.trans hx188_0); injection hv188_0 with hva_ hvn_ hvc_; rw [hva_] at ge188_0; rw [hvc_] at ul188_0; have HL188_0 := zM (show Kd.V k34 34 _ w.heap.size _ _ (rd_L3 l0_4 0) from Kd.V_mk ul188_0 ge188_0); clear hva_ hvn_ hvc_ ge188_0 ul188_0; clear hcc188 hce188; have qi188 : (0 < l0_4.length) = True := eq_true (by omega); (try rw [show ((0 : Int)).toNat = 0 from rfl] at hx188_0); (try rw [Addr.add_zero'] at hx188_0); have HR188_0 := zM hi188_0; have HC188_0 := zM hl188_0; clear hi188_0 hl188_0; replace p188 := eq_true p188; replace q188 := eq_true q188; have p192 : 0 ≤ (2 : Int) := (by omega); have q192 : 2 < (l0_4.length : Int) := of_decide_eq_true (by first | (with_reducible assumption) | assumption); obtain ⟨ad192, A192_0, c192_0, e192, hx192_0, hl192_0, hi192_0⟩ := at_L3 (Kd.V_reads' HO0_4.out).2.2 2 p192 q192; obtain rfl : ad188 = ad192 := (by injection e192); obtain ⟨ce192, hce192, hMe192, hcc192⟩ := Kd.V_get HO0_4.out [] 2 p192 (by first | exact q192 | exact of_decide_eq_true (by first | (with_reducible assumption) | assumption) | (have e_ := (Kd.V_reads' HO0_4.out).1; omega)); obtain ⟨ua192_0, uc192_0, rfl, ul192_0, ge192_0⟩ := Kd.FK_slice_open hMe192; have hv192_0 := hcc192 0 _ rfl; rw [Nat.add_zero, show ((Kd.slice 34 k34)).sz = 1 from rfl, Nat.mul_one] at hv192_0; replace hv192_0 := Option.some.inj (hv192_0.symm.trans hx192_0); injection hv192_0 with hva_ hvn_ hvc_; rw [hva_] at ge192_0; rw [hvc_] at ul192_0; have HL192_0 := zM (show Kd.V k34 34 _ w.heap.size _ _ (rd_L3 l0_4 2) from Kd.V_mk ul192_0 ge192_0); clear hva_ hvn_ hvc_ ge192_0 ul192_0; clear hcc192 hce192; (try simp only [show (2 : Int).toNat = 2 from rfl, Nat.reduceMul, Nat.reduceEqDiff, Go.Addr.add, ↓reduceIte] at hx192_0); have qi192 : (2 < l0_4.length) = True := eq_true (by omega); (try rw [show ((2 : Int)).toNat = 2 from rfl] at hx192_0); have HR192_0 := zM hi192_0; have HC192_0 := zM hl192_0; clear hi192_0 hl192_0; replace p192 := eq_true p192; replace q192 := eq_true q192))
    go_ret3
    exact ⟨_, by first | rfl | (simp [errW_none, errW_some] <;> rfl) | (simp [*, errW_none, errW_some] <;> rfl), by first | exact vr0_ (by first | exact Kd.R_nil _ _ _ _ _ | exact Kd.N_nil _ _ _ _ _ | exact Kd.V_nil _ _ _ _ _ | exact Kd.Q_nil _ _ _ _ _ | exact Kd.S_nil _ _ _ _ _) | exact vr_ (by first | exact Kd.R_nil _ _ _ _ _ | exact Kd.N_nil _ _ _ _ _ | exact Kd.V_nil _ _ _ _ _ | exact Kd.Q_nil _ _ _ _ _ | exact Kd.S_nil _ _ _ _ _), bel_⟩
  rw [if_neg c31] at H
  have c31b0 : (((rd_L3 l0_4 2).length : Int) == 0) = false := beq_eq_false_iff_ne.mpr c31
  have c31b1 : (((rd_L3 l0_4 2).length : Int) != 0) = true := bne_iff_ne.mpr c31
  have c31b2 : ¬ ((rd_L3 l0_4 2) = []) := fun h_ => c31 (by rw [h_]; rfl)
  simp only [Option.some.injEq, Prod.mk.injEq] at H
  obtain ⟨rfl, rfl, rfl⟩ := H
  go_enter Try.func17, Try.ntmps17
  try go_wp2_with (first | ((with_reducible refine gate_dst (N := 1) rfl ?_); refine box_event ?hg (N := 1) ?hd (cs := #[.bool false, .int .i64 a0_1, .int .i64 a0_2, .int .i64 a0_3, .slice A0_4 l0_4.length c0_4]) (t := 38) ?hr ?_; (case hd => rfl); (case hg => rfl); (case hr => first | (go_simp; done) | (go_simp; rfl)); intro gb187 hg w34 hbox hb; replace HO0_4 := zM (Kd.V_below (Kd.V_elderB (by (with_reducible repeat (first | apply Kd.V_alloc | apply Kd.V_drewN | apply Kd.V_drew)); exact HO0_4.out) gb187 (Nat.le_of_eq hg.symm)) hb); have BK187 := zM (hbox); have GW187 := zM (bs_ hg); have GE187 := zM (bs_ hg); replace HB := zM (zB bel_ hb); clear hb hbox hg; obtain ⟨hcz35_0, hcz35_1, hcz35_2, hcz35_3, hcz35_4⟩ := r5_ BK187.out; obtain ⟨hfz35_0, hfz35_1, hfz35_2, hfz35_3, hfz35_4⟩ := f5_ BK187.out; have p188 : 0 ≤ (0 : Int) := (by omega); have q188 : 0 < (l0_4.length : Int) := of_decide_eq_true (by first | (with_reducible assumption) | assumption); obtain ⟨ad188, A188_0, c188_0, e188, hx188_0, hl188_0, hi188_0⟩ := at_L3 (Kd.V_reads' HO0_4.out).2.2 0 p188 q188; cases e188; obtain ⟨ce188, hce188, hMe188, hcc188⟩ := Kd.V_get HO0_4.out [] 0 p188 (by first | exact q188 | exact of_decide_eq_true (by first | (with_reducible assumption) | assumption) | (have e_ := (Kd.V_reads' HO0_4.out).1; omega)); obtain ⟨ua188_0, uc188_0, rfl, ul188_0, ge188_0⟩ := Kd.FK_slice_open hMe188; have hv188_0 := hcc188 0 _ rfl; rw [Nat.add_zero, show ((Kd.slice 34 k34)).sz = 1 from rfl, Nat.mul_one] at hv188_0; replace hv188_0 := Option.some.inj (hv188_0.symm.trans hx188_0); injection hv188_0 with hva_ hvn_ hvc_; rw [hva_] at ge188_0; rw [hvc_] at ul188_0; have HL188_0 := zM (show Kd.V k34 34 _ w.heap.size _ _ (rd_L3 l0_4 0) from Kd.V_mk ul188_0 ge188_0); clear hva_ hvn_ hvc_ ge188_0 ul188_0; clear hcc188 hce188; have qi188 : (0 < l0_4.length) = True := eq_true (by omega); (try rw [show ((0 : Int)).toNat = 0 from rfl] at hx188_0); (try rw [Addr.add_zero'] at hx188_0); have HR188_0 := zM hi188_0; have HC188_0 := zM hl188_0; clear hi188_0 hl188_0; replace p188 := eq_true p188; replace q188 := eq_true q188; have p192 : 0 ≤ (2 : Int) := (by omega); have q192 : 2 < (l0_4.length : Int) := of_decide_eq_true (by first | (with_reducible assumption) | assumption); obtain ⟨ad192, A192_0, c192_0, e192, hx192_0, hl192_0, hi192_0⟩ := at_L3 (Kd.V_reads' HO0_4.out).2.2 2 p192 q192; obtain rfl : ad188 = ad192 := (by injection e192); obtain ⟨ce192, hce192, hMe192, hcc192⟩ := Kd.V_get HO0_4.out [] 2 p192 (by first | exact q192 | exact of_decide_eq_true (by first | (with_reducible assumption) | assumption) | (have e_ := (Kd.V_reads' HO0_4.out).1; omega)); obtain ⟨ua192_0, uc192_0, rfl, ul192_0, ge192_0⟩ := Kd.FK_slice_open hMe192; have hv192_0 := hcc192 0 _ rfl; rw [Nat.add_zero, show ((Kd.slice 34 k34)).sz = 1 from rfl, Nat.mul_one] at hv192_0; replace hv192_0 := Option.some.inj (hv192_0.symm.trans hx192_0); injection hv192_0 with hva_ hvn_ hvc_; rw [hva_] at ge192_0; rw [hvc_] at ul192_0; have HL192_0 := zM (show Kd.V k34 34 _ w.heap.size _ _ (rd_L3 l0_4 2) from Kd.V_mk ul192_0 ge192_0); clear hva_ hvn_ hvc_ ge192_0 ul192_0; clear hcc192 hce192; (try simp only [show (2 : Int).toNat = 2 from rfl, Nat.reduceMul, Nat.reduceEqDiff, Go.Addr.add, ↓reduceIte] at hx192_0); have qi192 : (2 < l0_4.length) = True := eq_true (by omega); (try rw [show ((2 : Int)).toNat = 2 from rfl] at hx192_0); have HR192_0 := zM hi192_0; have HC192_0 := zM hl192_0; clear hi192_0 hl192_0; replace p192 := eq_true p192; replace q192 := eq_true q192))
  replace HO0_4 := zM (Kd.V_drew HO0_4.out)
  replace HL188_0 := zM (Kd.V_drew HL188_0.out)
  replace HL192_0 := zM (Kd.V_drew HL192_0.out)
  replace BK187 := zM (zD BK187.out)
  replace HR188_0 := zM (Kd.C_drew HR188_0.out)
  replace HR192_0 := zM (Kd.C_drew HR192_0.out)
  replace HB := zM (below_drew1 HB.out)
  have p193 : 0 ≤ (2 : Int) := (by omega)
  have q193 : 2 < (l0_4.length : Int) := of_decide_eq_true (by first | (with_reducible assumption) | assumption)
  obtain ⟨ad193, A193_0, c193_0, e193, hx193_0, hl193_0, hi193_0⟩ := at_L3 (Kd.V_reads' HO0_4.out).2.2 2 p193 q193
  obtain rfl : ad188 = ad193 := (by injection e193)
  obtain ⟨ce193, hce193, hMe193, hcc193⟩ := Kd.V_get HO0_4.out [] 2 p193 (by first | exact q193 | exact of_decide_eq_true (by first | (with_reducible assumption) | assumption) | (have e_ := (Kd.V_reads' HO0_4.out).1; omega))
  obtain ⟨ua193_0, uc193_0, rfl, ul193_0, ge193_0⟩ := Kd.FK_slice_open hMe193
  have hv193_0 := hcc193 0 _ rfl
  rw [Nat.add_zero, show ((Kd.slice 34 k34)).sz = 1 from rfl, Nat.mul_one] at hv193_0
  replace hv193_0 := Option.some.inj (hv193_0.symm.trans hx193_0)
  injection hv193_0 with hva_ hvn_ hvc_
  rw [hva_] at ge193_0
  rw [hvc_] at ul193_0
  have HL193_0 := zM (show Kd.V k34 34 _ w.heap.size _ _ (rd_L3 l0_4 2) from Kd.V_mk ul193_0 ge193_0)
  clear hva_ hvn_ hvc_ ge193_0 ul193_0
  clear hcc193 hce193
  (try simp only [show (2 : Int).toNat = 2 from rfl, Nat.reduceMul, Nat.reduceEqDiff, Go.Addr.add, ↓reduceIte] at hx193_0)
  have qi193 : (2 < l0_4.length) = True := eq_true (by omega)
  (try rw [show ((2 : Int)).toNat = 2 from rfl] at hx193_0)
  have HR193_0 := zM hi193_0
  have HC193_0 := zM hl193_0
  clear hi193_0 hl193_0
  replace p193 := eq_true p193
  replace q193 := eq_true q193
  refine start_ (n := 7) (S := fun w' => w'.cell? ⟨gb187, 0, none⟩ = some (.bool false) ∧ w'.cell? ⟨gb187, 1, none⟩ = some (.int .i64 a0_1) ∧ w'.cell? ⟨gb187, 2, none⟩ = some (.int .i64 a0_2) ∧ w'.cell? ⟨gb187, 3, none⟩ = some (.int .i64 a0_3) ∧ w'.cell? ⟨gb187, 4, none⟩ = some (.slice (some ad188) l0_4.length c0_4) ∧ w'.cell? ⟨ad188.block, ad188.off + 2, none⟩ = some (.slice A193_0 (rd_L3 l0_4 2).length c193_0)) (ds := []) #[F_, F_, F_, F_, F_, F_, F_] (by kernel_rfl) rfl rfl ⟨(zL BK187.out 0).trans rfl, (zL BK187.out 1).trans rfl, (zL BK187.out 2).trans rfl, (zL BK187.out 3).trans rfl, (zL BK187.out 4).trans rfl, hx193_0⟩ (fun hHeld => ?_)
  generalize w34.drew = w36 at HO0_4 HL188_0 HL192_0 BK187 HR188_0 HR192_0 HB HL193_0 HR193_0 hx193_0 hHeld ⊢
  refine pu_ 0 45 (dm_ 7 1) ?_
  refine pu_ 4 2 (dm_ 7 17) ?_
  refine tk_ hHeld 1 46 (dm_ 7 19) ?_
  refine pu_ 2 47 (dm_ 7 23) ?_
  refine tk_ hHeld 3 48 (dm_ 7 31) ?_
  refine pu_ 5 3 (dm_ 7 63) ?_
  refine pu_ 6 4 (dm_ 7 127) ?_
  refine done_ (by kernel_rfl) ?_
  try go_wp2
  go_ret3
  exact ⟨_, by first | rfl | (simp [errW_none, errW_some] <;> rfl) | (simp [*, errW_none, errW_some] <;> rfl), by (with_reducible repeat (first | apply Kd.V_alloc | apply Kd.V_drewN | apply Kd.V_drew)); exact Kd.V_mono HL193_0.out (fun _ hk => hk.1), bel_⟩
/-! ### ropewayref15_Got: function 16 -/
def ropewayref15_Got.f (a0_0 : Bool) (a0_1 : Int) (a0_2 : Int) (a0_3 : Int) (l0_4 : List (List (S34))) (l1 : List (S34)) : Option (Bool × Int × Int × Int × (List (List (S34)))) := (ropewayref15_Need.f a0_0 a0_1 a0_2 a0_3 l0_4).bind fun bt196 => (if bt196.2.2 = true then ((some (([] : List (List (S34))) : List (List (S34)))).bind fun y201 => (if y201.length + l0_4.length < 5864062014805 then ((some (y201 ++ l0_4 : List (List (S34)))).bind fun y204 => ((some (([] : List (S34)) : List (S34))).bind fun y207 => (if y207.length + l1.length < 5864062014805 then (if y204.length < 5864062014805 then (some (a0_0, a0_1, a0_2, a0_3, (y204 ++ [(y207 ++ l1)]))) else (none)) else (none)))) else (none))) else (some (a0_0, a0_1, a0_2, a0_3, l0_4)))
set_option maxHeartbeats 8000000 in
set_option maxRecDepth 100000 in
theorem ropewayref15_Got.calls (a0_0 : Bool) (a0_1 : Int) (a0_2 : Int) (a0_3 : Int) (P0_4_ : Nat → Prop) (A0_4 : Option Addr) (c0_4 : Nat) (l0_4 : List (List (S34))) (A1 : Option Addr) (c1 : Nat) (l1 : List (S34)) (r1 : Bool) (r2 : Int) (r3 : Int) (r4 : Int) (r5 : List (List (S34))) (w : World) (hs0_4 : Kd.V (Kd.slice 34 k34) 27 w w.heap.size (fun k_ => P0_4_ k_) (.slice A0_4 l0_4.length c0_4) l0_4) (hr1 : Kd.C k34 w A1 l1.length l1) (hc1 : l1.length ≤ c1) (h : ropewayref15_Got.f a0_0 a0_1 a0_2 a0_3 l0_4 l1 = some (r1, r2, r3, r4, r5)) :
    Calls Try.prog 16 #[.agg #[.bool a0_0, .int .i64 a0_1, .int .i64 a0_2, .int .i64 a0_3, .slice A0_4 l0_4.length c0_4], .slice A1 l1.length c1] w fun e w' => ∃ v4_ : Value, e = .returned (.agg #[.bool r1, .int .i64 r2, .int .i64 r3, .int .i64 r4, v4_]) ∧ Kd.V (Kd.slice 34 k34) 27 w' w.heap.size (fun k_ => (P0_4_ k_ ∨ w.heap.size ≤ k_)) v4_ r5 ∧ Below w.heap.size w w' := by
  have hu38 := Try.underlying38
  have HO0_4 := zM (show Kd.V (Kd.slice 34 k34) 27 w w.heap.size (fun k_ => (P0_4_ k_ ∨ w.heap.size ≤ k_)) (.slice A0_4 l0_4.length c0_4) l0_4 from Kd.V_mono hs0_4 (fun k_ hk => .inl hk))
  have HR1 := zM hr1
  have HC1 := zM hc1
  clear hr1 hc1
  have HB := zM (Below.refl w.heap.size w)
  have H : ((ropewayref15_Need.f a0_0 a0_1 a0_2 a0_3 l0_4).bind fun bt196 => (if bt196.2.2 = true then ((some (([] : List (List (S34))) : List (List (S34)))).bind fun y201 => (if y201.length + l0_4.length < 5864062014805 then ((some (y201 ++ l0_4 : List (List (S34)))).bind fun y204 => ((some (([] : List (S34)) : List (S34))).bind fun y207 => (if y207.length + l1.length < 5864062014805 then (if y204.length < 5864062014805 then (some (a0_0, a0_1, a0_2, a0_3, (y204 ++ [(y207 ++ l1)]))) else (none)) else (none)))) else (none))) else (some (a0_0, a0_1, a0_2, a0_3, l0_4)))) = some (r1, r2, r3, r4, r5) := h
  clear h
  replace H := Option.bind_eq_some_iff.mp H
  obtain ⟨⟨t196, t197, t200⟩, A30, H⟩ := H
  replace H : (if t200 = true then ((some (([] : List (List (S34))) : List (List (S34)))).bind fun y201 => (if y201.length + l0_4.length < 5864062014805 then ((some (y201 ++ l0_4 : List (List (S34)))).bind fun y204 => ((some (([] : List (S34)) : List (S34))).bind fun y207 => (if y207.length + l1.length < 5864062014805 then (if y204.length < 5864062014805 then (some (a0_0, a0_1, a0_2, a0_3, (y204 ++ [(y207 ++ l1)]))) else (none)) else (none)))) else (none))) else (some (a0_0, a0_1, a0_2, a0_3, l0_4))) = some (r1, r2, r3, r4, r5) := H
  have A3 := zM A30
  clear A30
  by_cases c4 : t200 = true
  rotate_left
  · replace c4 := Bool.eq_false_iff.mpr c4
    subst c4
    have H1 : (some (a0_0, a0_1, a0_2, a0_3, l0_4)) = some (r1, r2, r3, r4, r5) := by rw [if_neg (show ¬ (false = true) by decide)] at H; exact H
    clear H
    have H := H1
    clear H1
    simp only [Option.some.injEq, Prod.mk.injEq] at H
    obtain ⟨rfl, rfl, rfl, rfl, rfl⟩ := H
    go_enter Try.func16, Try.ntmps16
    go_wp2_with (first | ((with_reducible refine gate_dst (N := 2) rfl ?_); refine box_event ?hg (N := 2) ?hd (cs := #[.bool a0_0, .int .i64 a0_1, .int .i64 a0_2, .int .i64 a0_3, .slice A0_4 l0_4.length c0_4]) (t := 38) ?hr ?_; (case hd => rfl); (case hg => rfl); (case hr => first | (go_simp; done) | (go_simp; rfl)); intro gb194 hg w25 hbox hb; replace HO0_4 := zM (Kd.V_below (Kd.V_elderB (by (with_reducible repeat (first | apply Kd.V_alloc | apply Kd.V_drewN | apply Kd.V_drew)); exact HO0_4.out) gb194 (Nat.le_of_eq hg.symm)) hb); have BK194 := zM (hbox); have GW194 := zM (bs_ hg); have GE194 := zM (bs_ hg); replace HB := zM (zB bel_ hb); clear hb hbox hg) | ((with_reducible refine gate_dst (N := 4) rfl ?_); refine box_event ?hg (N := 4) ?hd (cs := #[.bool false, .int .i64 0, .int .i64 0, .int .i64 0, .slice none 0 0]) (t := 38) ?hr ?_; (case hd => rfl); (case hg => rfl); (case hr => first | (go_simp; done) | (go_simp; rfl)); intro gb195 hg w26 hbox hb; replace HO0_4 := zM (Kd.V_below (Kd.V_elderB (by (with_reducible repeat (first | apply Kd.V_alloc | apply Kd.V_drewN | apply Kd.V_drew)); exact HO0_4.out) gb195 (Nat.le_of_eq hg.symm)) hb); have BK195 := zM (hbox); have GW195 := zM (bs_ hg); have GE195 := zM (bs_ hg); replace HB := zM (zB bel_ hb); have NB194_195 := zM (nl_ BK194 hg); have NB195_194 := zM (ng_ BK194 hg); replace BK194 := zM (bb_ BK194 hb); clear hb hbox hg; have hnb27 := NB194_195.out; have hnc27 := NB195_194.out; obtain ⟨hcz28_0, hcz28_1, hcz28_2, hcz28_3, hcz28_4⟩ := r5_ BK194.out; obtain ⟨hfz28_0, hfz28_1, hfz28_2, hfz28_3, hfz28_4⟩ := f5_ BK194.out) | ((with_reducible refine gate_callee (f := 17) rfl ?_); refine goL_ (some 11) Try.func17 #[.agg #[.bool a0_0, .int .i64 a0_1, .int .i64 a0_2, .int .i64 a0_3, .slice A0_4 l0_4.length c0_4]] ?_; (with_reducible refine (ropewayref15_Need.calls a0_0 a0_1 a0_2 a0_3 (fun k_ => (((P0_4_ k_ ∨ w.heap.size ≤ k_) ∧ k_ ≠ gb194) ∧ k_ ≠ gb195)) _ _ l0_4 t196 t197 false _ ?side1 A3.out).mono ?_); (case side1 => exact HO0_4.out); rintro e w29 ⟨v198, rfl, ho0, hb⟩; refine ⟨_, rfl, ?_⟩; replace HO0_4 := zM (Kd.V_below (by (with_reducible repeat (first | apply Kd.V_alloc | apply Kd.V_drewN | apply Kd.V_drew)); exact HO0_4.out) hb); have HO199 := zM (Kd.V_lower (Kd.V_mono (ok' := fun k_ => (P0_4_ k_ ∨ w.heap.size ≤ k_) ∧ k_ ≠ gb194 ∧ k_ ≠ gb195) ho0 (fun k_ hk_ => ⟨Or.elim hk_ (fun hs_ => hs_.1.1) (fun hn_ => (.inr (Nat.le_trans (below_size bel_) hn_))), Or.elim hk_ (fun hs_ => hs_.1.2) (fun hn_ => (Kd.freshB (g := gb194) (o := .cells #[.bool a0_0, .int .i64 a0_1, .int .i64 a0_2, .int .i64 a0_3, .slice A0_4 l0_4.length c0_4] 38 (0, 0)) blk_ k_ hn_)), Or.elim hk_ (fun hs_ => hs_.2) (fun hn_ => (Kd.freshB (g := gb195) (o := .cells #[.bool false, .int .i64 0, .int .i64 0, .int .i64 0, .slice none 0 0] 38 (0, 0)) blk_ k_ hn_))⟩)) (below_size bel_)); replace BK194 := zM (bb_ BK194 hb); replace BK195 := zM (bb_ BK195 hb); replace HB := zM (zB bel_ hb); (try clear hb); (try clear hb2); (try clear hk); (try clear hi); (try clear ho0); obtain ⟨hcz30_0, hcz30_1, hcz30_2, hcz30_3, hcz30_4⟩ := r5_ BK194.out; obtain ⟨hfz30_0, hfz30_1, hfz30_2, hfz30_3, hfz30_4⟩ := f5_ BK194.out; obtain ⟨hcz31_0, hcz31_1, hcz31_2, hcz31_3, hcz31_4⟩ := r5_ BK195.out; obtain ⟨hfz31_0, hfz31_1, hfz31_2, hfz31_3, hfz31_4⟩ := f5_ BK195.out))
    refine bodyPost_ret (results_cell_row rfl _ _ gb195 38 #[.bool a0_0, .int .i64 a0_1, .int .i64 a0_2, .int .i64 a0_3, .slice A0_4 l0_4.length c0_4] (0, 0) _ rfl (by (with_reducible repeat (first | refine zN ?_ _ | refine zD ?_ | refine zA ?_ _)); exact fx5_ BK195) Try.underlying38 rfl (by kernel_rfl)) rfl ?_
    exact ⟨_, by first | rfl | (simp [errW_none, errW_some] <;> rfl) | (simp [*, errW_none, errW_some] <;> rfl), by (with_reducible repeat (first | apply Kd.V_alloc | apply Kd.V_drewN | apply Kd.V_drew)); exact Kd.V_mono (Kd.V_far (p := ⟨gb195, 4, none⟩) (Kd.V_far (p := ⟨gb195, 3, none⟩) (Kd.V_far (p := ⟨gb195, 2, none⟩) (Kd.V_far (p := ⟨gb195, 1, none⟩) (Kd.V_far (p := ⟨gb195, 0, none⟩) (Kd.V_mono HO0_4.out (fun k_ hk => (⟨hk, hk.2⟩ : _ ∧ k_ ≠ gb195))) (fun _ hk => hk.2) (.bool a0_0)) (fun _ hk => hk.2) (.int .i64 a0_1)) (fun _ hk => hk.2) (.int .i64 a0_2)) (fun _ hk => hk.2) (.int .i64 a0_3)) (fun _ hk => hk.2) (.slice A0_4 l0_4.length c0_4)) (fun _ hk => hk.1.1.1), bel_⟩
  subst c4
  have H1 : ((some (([] : List (List (S34))) : List (List (S34)))).bind fun y201 => (if y201.length + l0_4.length < 5864062014805 then ((some (y201 ++ l0_4 : List (List (S34)))).bind fun y204 => ((some (([] : List (S34)) : List (S34))).bind fun y207 => (if y207.length + l1.length < 5864062014805 then (if y204.length < 5864062014805 then (some (a0_0, a0_1, a0_2, a0_3, (y204 ++ [(y207 ++ l1)]))) else (none)) else (none)))) else (none))) = some (r1, r2, r3, r4, r5) := by rw [if_pos rfl] at H; exact H
  clear H
  have H := H1
  clear H1
  obtain ⟨y201, hy201⟩ : ∃ y_ : List (List (S34)), y_ = (([] : List (List (S34)))) := ⟨_, rfl⟩
  replace H : (if y201.length + l0_4.length < 5864062014805 then ((some (y201 ++ l0_4 : List (List (S34)))).bind fun y204 => ((some (([] : List (S34)) : List (S34))).bind fun y207 => (if y207.length + l1.length < 5864062014805 then (if y204.length < 5864062014805 then (some (a0_0, a0_1, a0_2, a0_3, (y204 ++ [(y207 ++ l1)]))) else (none)) else (none)))) else (none)) = some (r1, r2, r3, r4, r5) := by first | (rw [hy201]; with_reducible exact H) | (have H2_ := (Option.bind_some _ _).symm.trans H; rw [hy201]; with_reducible exact H2_) | (have H2_ := (Option.bind_some _ _).symm.trans H; with_reducible exact H2_) | with_reducible exact H | (rw [hy201]; exact H) | exact H
  have Ny201 := zM hy201
  clear hy201
  by_cases c5 : y201.length + l0_4.length < 5864062014805
  rotate_left
  · rw [if_neg c5] at H
    exact absurd H (by simp)
  rw [if_pos c5] at H
  have LMc5 := zM c5
  clear c5
  obtain ⟨y204, hy204⟩ : ∃ y_ : List (List (S34)), y_ = (y201 ++ l0_4) := ⟨_, rfl⟩
  replace H : ((some (([] : List (S34)) : List (S34))).bind fun y207 => (if y207.length + l1.length < 5864062014805 then (if y204.length < 5864062014805 then (some (a0_0, a0_1, a0_2, a0_3, (y204 ++ [(y207 ++ l1)]))) else (none)) else (none))) = some (r1, r2, r3, r4, r5) := by first | (rw [hy204]; with_reducible exact H) | (have H2_ := (Option.bind_some _ _).symm.trans H; rw [hy204]; with_reducible exact H2_) | (have H2_ := (Option.bind_some _ _).symm.trans H; with_reducible exact H2_) | with_reducible exact H | (rw [hy204]; exact H) | exact H
  have Ny204 := zM hy204
  clear hy204
  obtain ⟨y207, hy207⟩ : ∃ y_ : List (S34), y_ = (([] : List (S34))) := ⟨_, rfl⟩
  replace H : (if y207.length + l1.length < 5864062014805 then (if y204.length < 5864062014805 then (some (a0_0, a0_1, a0_2, a0_3, (y204 ++ [(y207 ++ l1)]))) else (none)) else (none)) = some (r1, r2, r3, r4, r5) := by first | (rw [hy207]; with_reducible exact H) | (have H2_ := (Option.bind_some _ _).symm.trans H; rw [hy207]; with_reducible exact H2_) | (have H2_ := (Option.bind_some _ _).symm.trans H; with_reducible exact H2_) | with_reducible exact H | (rw [hy207]; exact H) | exact H
  have Ny207 := zM hy207
  clear hy207
  by_cases c6 : y207.length + l1.length < 5864062014805
  rotate_left
  · rw [if_neg c6] at H
    exact absurd H (by simp)
  rw [if_pos c6] at H
  have LMc6 := zM c6
  clear c6
  obtain ⟨y210, hy210⟩ : ∃ y_ : List (S34), y_ = (y207 ++ l1) := ⟨_, rfl⟩
  replace H : (if y204.length < 5864062014805 then (some (a0_0, a0_1, a0_2, a0_3, (y204 ++ [y210]))) else (none)) = some (r1, r2, r3, r4, r5) := by first | (rw [hy210]; with_reducible exact H) | (have H2_ := (Option.bind_some _ _).symm.trans H; rw [hy210]; with_reducible exact H2_) | (have H2_ := (Option.bind_some _ _).symm.trans H; with_reducible exact H2_) | with_reducible exact H | (rw [hy210]; exact H) | exact H
  have Ny210 := zM hy210
  clear hy210
  by_cases c7 : y204.length < 5864062014805
  rotate_left
  · rw [if_neg c7] at H
    exact absurd H (by simp)
  rw [if_pos c7] at H
  have LMc7 := zM c7
  clear c7
  obtain ⟨y213, hy213⟩ : ∃ y_ : List (List (S34)), y_ = (y204 ++ [y210]) := ⟨_, rfl⟩
  replace H : (some (a0_0, a0_1, a0_2, a0_3, y213)) = some (r1, r2, r3, r4, r5) := by first | (rw [hy213]; with_reducible exact H) | (have H2_ := (Option.bind_some _ _).symm.trans H; rw [hy213]; with_reducible exact H2_) | (have H2_ := (Option.bind_some _ _).symm.trans H; with_reducible exact H2_) | with_reducible exact H | (rw [hy213]; exact H) | exact H
  have Ny213 := zM hy213
  clear hy213
  simp only [Option.some.injEq, Prod.mk.injEq] at H
  obtain ⟨rfl, rfl, rfl, rfl, rfl⟩ := H
  go_enter Try.func16, Try.ntmps16
  go_wp2_with (first | ((with_reducible refine gate_dst (N := 2) rfl ?_); refine box_event ?hg (N := 2) ?hd (cs := #[.bool a0_0, .int .i64 a0_1, .int .i64 a0_2, .int .i64 a0_3, .slice A0_4 l0_4.length c0_4]) (t := 38) ?hr ?_; (case hd => rfl); (case hg => rfl); (case hr => first | (go_simp; done) | (go_simp; rfl)); intro gb194 hg w8 hbox hb; replace HO0_4 := zM (Kd.V_below (Kd.V_elderB (by (with_reducible repeat (first | apply Kd.V_alloc | apply Kd.V_drewN | apply Kd.V_drew)); exact HO0_4.out) gb194 (Nat.le_of_eq hg.symm)) hb); have BK194 := zM (hbox); have GW194 := zM (bs_ hg); have GE194 := zM (bs_ hg); replace HB := zM (zB bel_ hb); clear hb hbox hg) | ((with_reducible refine gate_dst (N := 4) rfl ?_); refine box_event ?hg (N := 4) ?hd (cs := #[.bool false, .int .i64 0, .int .i64 0, .int .i64 0, .slice none 0 0]) (t := 38) ?hr ?_; (case hd => rfl); (case hg => rfl); (case hr => first | (go_simp; done) | (go_simp; rfl)); intro gb195 hg w9 hbox hb; replace HO0_4 := zM (Kd.V_below (Kd.V_elderB (by (with_reducible repeat (first | apply Kd.V_alloc | apply Kd.V_drewN | apply Kd.V_drew)); exact HO0_4.out) gb195 (Nat.le_of_eq hg.symm)) hb); have BK195 := zM (hbox); have GW195 := zM (bs_ hg); have GE195 := zM (bs_ hg); replace HB := zM (zB bel_ hb); have NB194_195 := zM (nl_ BK194 hg); have NB195_194 := zM (ng_ BK194 hg); replace BK194 := zM (bb_ BK194 hb); clear hb hbox hg; have hnb10 := NB194_195.out; have hnc10 := NB195_194.out; obtain ⟨hcz11_0, hcz11_1, hcz11_2, hcz11_3, hcz11_4⟩ := r5_ BK194.out; obtain ⟨hfz11_0, hfz11_1, hfz11_2, hfz11_3, hfz11_4⟩ := f5_ BK194.out) | ((with_reducible refine gate_callee (f := 17) rfl ?_); refine goL_ (some 11) Try.func17 #[.agg #[.bool a0_0, .int .i64 a0_1, .int .i64 a0_2, .int .i64 a0_3, .slice A0_4 l0_4.length c0_4]] ?_; (with_reducible refine (ropewayref15_Need.calls a0_0 a0_1 a0_2 a0_3 (fun k_ => (((P0_4_ k_ ∨ w.heap.size ≤ k_) ∧ k_ ≠ gb194) ∧ k_ ≠ gb195)) _ _ l0_4 t196 t197 true _ ?side1 A3.out).mono ?_); (case side1 => exact HO0_4.out); rintro e w12 ⟨v198, rfl, ho0, hb⟩; refine ⟨_, rfl, ?_⟩; replace HO0_4 := zM (Kd.V_below (by (with_reducible repeat (first | apply Kd.V_alloc | apply Kd.V_drewN | apply Kd.V_drew)); exact HO0_4.out) hb); have HO199 := zM (Kd.V_lower (Kd.V_mono (ok' := fun k_ => (P0_4_ k_ ∨ w.heap.size ≤ k_) ∧ k_ ≠ gb194 ∧ k_ ≠ gb195) ho0 (fun k_ hk_ => ⟨Or.elim hk_ (fun hs_ => hs_.1.1) (fun hn_ => (.inr (Nat.le_trans (below_size bel_) hn_))), Or.elim hk_ (fun hs_ => hs_.1.2) (fun hn_ => (Kd.freshB (g := gb194) (o := .cells #[.bool a0_0, .int .i64 a0_1, .int .i64 a0_2, .int .i64 a0_3, .slice A0_4 l0_4.length c0_4] 38 (0, 0)) blk_ k_ hn_)), Or.elim hk_ (fun hs_ => hs_.2) (fun hn_ => (Kd.freshB (g := gb195) (o := .cells #[.bool false, .int .i64 0, .int .i64 0, .int .i64 0, .slice none 0 0] 38 (0, 0)) blk_ k_ hn_))⟩)) (below_size bel_)); replace BK194 := zM (bb_ BK194 hb); replace BK195 := zM (bb_ BK195 hb); replace HB := zM (zB bel_ hb); (try clear hb); (try clear hb2); (try clear hk); (try clear hi); (try clear ho0)) | ((with_reducible refine gate_dst (N := 16) rfl ?_); refine Kd.N_lit (Kd.slice 34 k34) _ 27 ?hg (N' := 16) ?hd (xs := ([] : List (List (S34)))) (inner := []) (ok := (fun k_ => (P0_4_ k_ ∨ w.heap.size ≤ k_) ∧ k_ ≠ gb194 ∧ k_ ≠ gb195)) (okp := (fun k_ => (P0_4_ k_ ∨ w.heap.size ≤ k_) ∧ k_ ≠ gb194 ∧ k_ ≠ gb195)) ?hr ?hp (fun _ hk => hk) ((show ∀ k_, w12.heap.size ≤ k_ → (fun k_ => (P0_4_ k_ ∨ w.heap.size ≤ k_) ∧ k_ ≠ gb194 ∧ k_ ≠ gb195) k_ from fun k_ hk => ⟨(.inr (Nat.le_trans (below_size bel_) hk)), Kd.freshB (g := gb194) (o := .cells #[.bool a0_0, .int .i64 a0_1, .int .i64 a0_2, .int .i64 a0_3, .slice A0_4 l0_4.length c0_4] 38 (0, 0)) blk_ k_ hk, Kd.freshB (g := gb195) (o := .cells #[.bool false, .int .i64 0, .int .i64 0, .int .i64 0, .slice none 0 0] 38 (0, 0)) blk_ k_ hk⟩) _ (Nat.le_refl _)) (Below.refl _ _) (Nat.le_refl _) (by simp) ?_; (case hd => rfl); (case hg => rfl); (case hr => first | (go_simp; done) | (go_simp; rfl)); (case hp => exact (Reps.none _ _)); intro v202 w13 ho14 hb hg_ hnew_; clear hg_ hnew_; (first | rw [← Ny201.out] at ho14 | (simp only [Int.reduceToNat] at ho14; rw [← Ny201.out] at ho14)); replace HO0_4 := zM (Kd.V_elder' (by (with_reducible repeat (first | apply Kd.V_alloc | apply Kd.V_drewN | apply Kd.V_drew)); exact HO0_4.out) (Kd.N_base ho14) hb); replace HO199 := zM (Kd.V_elder' (by (with_reducible repeat (first | apply Kd.V_alloc | apply Kd.V_drewN | apply Kd.V_drew)); exact HO199.out) (Kd.N_base ho14) hb); have HO203 := zM (Kd.N_lower ho14 (below_size bel_)); replace BK194 := zM (bb_ BK194 hb); replace BK195 := zM (bb_ BK195 hb); replace HB := zM (zB bel_ hb); clear hb ho14; obtain ⟨hcz15_0, hcz15_1, hcz15_2, hcz15_3, hcz15_4⟩ := r5_ BK194.out; obtain ⟨hfz15_0, hfz15_1, hfz15_2, hfz15_3, hfz15_4⟩ := f5_ BK194.out) | ((with_reducible refine gate_builtin (b := .append) (xs := #[.tmp 16, .tmp 18]) rfl ?_); at_builtin; refine Kd.N_append_rows (Kd.slice 34 k34) (w0 := w) w.heap.size rfl (.tmp 16) (.tmp 18) 35 27 (.slice none 0 0) 24 rfl Try.underlying35 info27 rfl (by decide) (by omega) v202 y201 l0_4 _ _ _ (fun k_ => (P0_4_ k_ ∨ w.heap.size ≤ k_) ∧ k_ ≠ gb194 ∧ k_ ≠ gb195) (fun k_ => ((fun k_ => (P0_4_ k_ ∨ w.heap.size ≤ k_) ∧ k_ ≠ gb194 ∧ k_ ≠ gb195)) k_ ∧ some k_ ≠ (v202 : Value).ownBlock) rfl rfl ?aO ?aR (fun _ hk => hk) ?aF ?aB ?aS ?aL ?_; (case aR => exact (by skip; exact Kd.V_F (Kd.V_mono (ok' := (fun k_ => ((fun k_ => (P0_4_ k_ ∨ w.heap.size ≤ k_) ∧ k_ ≠ gb194 ∧ k_ ≠ gb195)) k_ ∧ some k_ ≠ (v202 : Value).ownBlock)) (HO0_4.out) (fun k_ hk => ⟨⟨hk.1.1.1, ⟨hk.1.1.2, hk.1.2⟩⟩, hk.2⟩)))); (case aB => exact bel_); (case aF => exact (fun k_ hk => ⟨(.inr (Nat.le_trans (below_size bel_) hk)), Kd.freshB (g := gb194) (o := .cells #[.bool a0_0, .int .i64 a0_1, .int .i64 a0_2, .int .i64 a0_3, .slice A0_4 l0_4.length c0_4] 38 (0, 0)) blk_ k_ hk, Kd.freshB (g := gb195) (o := .cells #[.bool false, .int .i64 0, .int .i64 0, .int .i64 0, .slice none 0 0] 38 (0, 0)) blk_ k_ hk⟩)); (case aO => exact (by (with_reducible repeat (first | apply Kd.N_alloc | apply Kd.N_drewN | apply Kd.N_drew)); exact HO203.out)); (case aS => exact (below_size bel_)); (case aL => have := LMc5.out; omega); intro v205 w16 ho hb hg hat; rw [← Ny204.out] at ho; have n0_ := zM (Kd.V_afterv (ok := (fun k_ => (P0_4_ k_ ∨ w.heap.size ≤ k_) ∧ k_ ≠ gb194 ∧ k_ ≠ gb195)) (by (with_reducible repeat (first | apply Kd.V_alloc | apply Kd.V_drewN | apply Kd.V_drew)); exact Kd.V_mono HO0_4.out (fun _ hk => ⟨⟨hk.1.1.1, ⟨hk.1.1.2, hk.1.2⟩⟩, hk.2⟩)) hg hat); have n1_ := zM (blk_grown (g := gb194) (o := .cells #[.bool a0_0, .int .i64 a0_1, .int .i64 a0_2, .int .i64 a0_3, .slice A0_4 l0_4.length c0_4] 38 (0, 0)) blk_ hg (Kd.N_ne HO203.out BK194.out (by decide))); have n2_ := zM (blk_grown (g := gb195) (o := .cells #[.bool false, .int .i64 0, .int .i64 0, .int .i64 0, .slice none 0 0] 38 (0, 0)) blk_ hg (Kd.N_ne HO203.out BK195.out (by decide))); have n3_ := zM (Kd.V_afterv (ok := (fun k_ => (P0_4_ k_ ∨ w.heap.size ≤ k_) ∧ k_ ≠ gb194 ∧ k_ ≠ gb195)) (by (with_reducible repeat (first | apply Kd.V_alloc | apply Kd.V_drewN | apply Kd.V_drew)); exact HO199.out) hg hat); have n4_ := zM (hb); have n5_ := zM (ho); clear HO0_4; clear BK194; clear BK195; clear HO199; clear HB; clear HO203; have HO0_4 := n0_; have BK194 := n1_; have BK195 := n2_; have HO199 := n3_; have HB := n4_; have HO206 := n5_; clear n0_ n1_ n2_ n3_ n4_ n5_; clear ho hb hg hat) | ((with_reducible refine gate_dst (N := 21) rfl ?_); refine Kd.R_lit k34 _ 34 ?hg (N := 21) ?hd (xs := ([] : List (S34))) (inner := []) (ok := fun _ => True) (okp := fun _ => True) ?hr ?hp (fun _ hk => hk) trivial (Below.refl _ _) (Nat.le_refl _) (by simp) ?_; (case hd => rfl); (case hg => rfl); (case hr => first | (go_simp; done) | (go_simp; rfl)); (case hp => exact (Reps.none _ _)); intro v208 w17 ho18 hb hg_ hnew_; clear hg_ hnew_; (first | rw [← Ny207.out] at ho18 | (simp only [Int.reduceToNat] at ho18; rw [← Ny207.out] at ho18)); replace HO0_4 := zM (Kd.V_elder' (by (with_reducible repeat (first | apply Kd.V_alloc | apply Kd.V_drewN | apply Kd.V_drew)); exact HO0_4.out) (Kd.R_base ho18) hb); replace HO199 := zM (Kd.V_elder' (by (with_reducible repeat (first | apply Kd.V_alloc | apply Kd.V_drewN | apply Kd.V_drew)); exact HO199.out) (Kd.R_base ho18) hb); replace HO206 := zM (Kd.N_elder' (by (with_reducible repeat (first | apply Kd.N_alloc | apply Kd.N_drewN | apply Kd.N_drew)); exact HO206.out) (Kd.R_base ho18) hb); have HO209 := zM (Kd.R_lower (Kd.R_newM (M := fun k_ => (w.heap.size ≤ k_)) ho18 (below_size bel_) (fun k_ h_ => h_)) (below_size bel_)); replace BK194 := zM (bb_ BK194 hb); replace BK195 := zM (bb_ BK195 hb); replace HB := zM (zB bel_ hb); clear hb ho18) | ((with_reducible refine gate_builtin (b := .append) (xs := #[.tmp 21, .tmp 22]) rfl ?_); at_builtin; refine Kd.R_append_rows k34 (w0 := w) w.heap.size rfl (.tmp 21) (.tmp 22) 27 34 (.agg #[(.int .i64 0), (.int .i64 0), (.int .i64 0)]) 24 rfl Try.underlying27 info34 rfl (by decide) (by omega) v208 y207 l1 _ _ _ (fun k_ => (w.heap.size ≤ k_)) (fun _ => False) rfl rfl ?aO ?aR (fun _ _ h => h) (fun _ h => h.elim) ?aF ?aB ?aS ?aL ?_; (case aR => repeat (first | exact (Kd.C_below HR1.out HB.out) | (with_reducible refine Kd.C_alloc ?_ _) | (with_reducible refine Kd.C_drewN ?_ _) | (with_reducible refine Kd.C_drew ?_))); (case aB => exact bel_); (case aF => exact (fun k_ hk => (Nat.le_trans (below_size bel_) hk))); (case aO => exact (by (with_reducible repeat (first | apply Kd.R_alloc | apply Kd.R_drewN | apply Kd.R_drew)); exact Kd.R_mono HO209.out (fun _ hk => hk.1))); (case aS => exact (below_size bel_)); (case aL => have := LMc6.out; omega); intro v211 w19 ho hb hg hat; rw [← Ny210.out] at ho; have n0_ := zM (Kd.V_afterv (ok := (fun k_ => (P0_4_ k_ ∨ w.heap.size ≤ k_) ∧ some k_ ≠ (v205 : Value).ownBlock ∧ k_ ≠ gb194 ∧ k_ ≠ gb195)) (by (with_reducible repeat (first | apply Kd.V_alloc | apply Kd.V_drewN | apply Kd.V_drew)); exact Kd.V_mono HO0_4.out (fun _ hk => ⟨⟨hk.1.1.1, ⟨hk.1.2, ⟨hk.1.1.2.1, hk.1.1.2.2⟩⟩⟩, hk.2⟩)) hg hat); have n1_ := zM (blk_grown (g := gb194) (o := .cells #[.bool a0_0, .int .i64 a0_1, .int .i64 a0_2, .int .i64 a0_3, .slice A0_4 l0_4.length c0_4] 38 (0, 0)) blk_ hg (Kd.R_ne HO209.out BK194.out (by decide))); have n2_ := zM (blk_grown (g := gb195) (o := .cells #[.bool false, .int .i64 0, .int .i64 0, .int .i64 0, .slice none 0 0] 38 (0, 0)) blk_ hg (Kd.R_ne HO209.out BK195.out (by decide))); have n3_ := zM (Kd.V_afterv (ok := (fun k_ => (P0_4_ k_ ∨ w.heap.size ≤ k_) ∧ some k_ ≠ (v205 : Value).ownBlock ∧ k_ ≠ gb194 ∧ k_ ≠ gb195)) (by (with_reducible repeat (first | apply Kd.V_alloc | apply Kd.V_drewN | apply Kd.V_drew)); exact Kd.V_mono HO199.out (fun _ hk => ⟨⟨hk.1.1.1, ⟨hk.1.2, ⟨hk.1.1.2.1, hk.1.1.2.2⟩⟩⟩, hk.2⟩)) hg hat); have n4_ := zM (Kd.N_afterv (ok := (fun k_ => (P0_4_ k_ ∨ w.heap.size ≤ k_) ∧ k_ ≠ gb194 ∧ k_ ≠ gb195)) (by (with_reducible repeat (first | apply Kd.N_alloc | apply Kd.N_drewN | apply Kd.N_drew)); exact HO206.out) hg hat); have n5_ := zM (hb); have n6_ := zM (ho); clear HO0_4; clear BK194; clear BK195; clear HO199; clear HO206; clear HB; clear HO209; have HO0_4 := n0_; have BK194 := n1_; have BK195 := n2_; have HO199 := n3_; have HO206 := n4_; have HB := n5_; have HO212 := n6_; clear n0_ n1_ n2_ n3_ n4_ n5_ n6_; clear ho hb hg hat; obtain ⟨Ao21, co21, eo21⟩ := Kd.R_slice HO212.out; subst eo21) | ((with_reducible refine gate_builtin (b := .append) (xs := #[.tmp 20, .tmp 24]) rfl ?_); at_builtin; refine Kd.N_append (Kd.slice 34 k34) (w0 := w) w.heap.size rfl (.tmp 20) (.tmp 24) 35 27 (.slice none 0 0) 24 rfl Try.underlying35 info27 rfl (by decide) (by omega) v205 y204 y210 [.slice Ao21 y210.length co21] (fun k_ => (P0_4_ k_ ∨ w.heap.size ≤ k_) ∧ k_ ≠ gb194 ∧ k_ ≠ gb195) (fun k_ => ((fun k_ => (P0_4_ k_ ∨ w.heap.size ≤ k_) ∧ k_ ≠ gb194 ∧ k_ ≠ gb195)) k_ ∧ some k_ ≠ (v205 : Value).ownBlock) rfl rfl ?aP (fun _ hk => hk) ?aF ?aO ?aB ?aS ?aL ?_; (case aP => exact (Kd.FK_slice_mk (Kd.R_reads' (Kd.R_mono (ok' := (fun k_ => ((fun k_ => (P0_4_ k_ ∨ w.heap.size ≤ k_) ∧ k_ ≠ gb194 ∧ k_ ≠ gb195)) k_ ∧ some k_ ≠ (v205 : Value).ownBlock)) (Kd.R_types (Kd.R_types (Kd.R_apart' (HO212.out) (Kd.N_typed HO206.out) (by decide)) BK194.out (by decide)) BK195.out (by decide)) (fun k_ hk => ⟨⟨(.inr (hk.1.1.1)), ⟨hk.1.2, hk.2⟩⟩, hk.1.1.2⟩))).2.1 (Kd.R_F (Kd.R_mono (ok' := (fun k_ => ((fun k_ => (P0_4_ k_ ∨ w.heap.size ≤ k_) ∧ k_ ≠ gb194 ∧ k_ ≠ gb195)) k_ ∧ some k_ ≠ (v205 : Value).ownBlock)) (Kd.R_types (Kd.R_types (Kd.R_apart' (HO212.out) (Kd.N_typed HO206.out) (by decide)) BK194.out (by decide)) BK195.out (by decide)) (fun k_ hk => ⟨⟨(.inr (hk.1.1.1)), ⟨hk.1.2, hk.2⟩⟩, hk.1.1.2⟩))))); (case aB => exact bel_); (case aF => exact (fun k_ hk => ⟨(.inr (Nat.le_trans (below_size bel_) hk)), Kd.freshB (g := gb194) (o := .cells #[.bool a0_0, .int .i64 a0_1, .int .i64 a0_2, .int .i64 a0_3, .slice A0_4 l0_4.length c0_4] 38 (0, 0)) blk_ k_ hk, Kd.freshB (g := gb195) (o := .cells #[.bool false, .int .i64 0, .int .i64 0, .int .i64 0, .slice none 0 0] 38 (0, 0)) blk_ k_ hk⟩)); (case aO => exact (by (with_reducible repeat (first | apply Kd.N_alloc | apply Kd.N_drewN | apply Kd.N_drew)); exact Kd.N_mono HO206.out (fun _ hk => ⟨hk.1.1, ⟨hk.1.2.1, hk.1.2.2⟩⟩))); (case aS => exact (below_size bel_)); (case aL => have := LMc7.out; omega); intro v214 w20 ho hb hg hat; rw [← Ny213.out] at ho; have n0_ := zM (Kd.V_afterv (ok := (fun k_ => (P0_4_ k_ ∨ w.heap.size ≤ k_) ∧ some k_ ≠ (.slice Ao21 y210.length co21 : Value).ownBlock ∧ k_ ≠ gb194 ∧ k_ ≠ gb195)) (by (with_reducible repeat (first | apply Kd.V_alloc | apply Kd.V_drewN | apply Kd.V_drew)); exact Kd.V_mono HO0_4.out (fun _ hk => ⟨⟨hk.1.1, ⟨hk.2, ⟨hk.1.2.2.1, hk.1.2.2.2⟩⟩⟩, hk.1.2.1⟩)) hg hat); have n1_ := zM (blk_grown (g := gb194) (o := .cells #[.bool a0_0, .int .i64 a0_1, .int .i64 a0_2, .int .i64 a0_3, .slice A0_4 l0_4.length c0_4] 38 (0, 0)) blk_ hg (Kd.N_ne HO206.out BK194.out (by decide))); have n2_ := zM (blk_grown (g := gb195) (o := .cells #[.bool false, .int .i64 0, .int .i64 0, .int .i64 0, .slice none 0 0] 38 (0, 0)) blk_ hg (Kd.N_ne HO206.out BK195.out (by decide))); have n3_ := zM (Kd.V_afterv (ok := (fun k_ => (P0_4_ k_ ∨ w.heap.size ≤ k_) ∧ some k_ ≠ (.slice Ao21 y210.length co21 : Value).ownBlock ∧ k_ ≠ gb194 ∧ k_ ≠ gb195)) (by (with_reducible repeat (first | apply Kd.V_alloc | apply Kd.V_drewN | apply Kd.V_drew)); exact Kd.V_mono HO199.out (fun _ hk => ⟨⟨hk.1.1, ⟨hk.2, ⟨hk.1.2.2.1, hk.1.2.2.2⟩⟩⟩, hk.1.2.1⟩)) hg hat); have n4_ := zM (hb); have n5_ := zM (ho); clear HO0_4; clear BK194; clear BK195; clear HO199; clear HB; clear HO206; clear HO212; have HO0_4 := n0_; have BK194 := n1_; have BK195 := n2_; have HO199 := n3_; have HB := n4_; have HO215 := n5_; clear n0_ n1_ n2_ n3_ n4_ n5_; clear ho hb hg hat; obtain ⟨Ao22, co22, eo22⟩ := Kd.N_slice HO215.out; subst eo22; obtain ⟨hcz23_0, hcz23_1, hcz23_2, hcz23_3, hcz23_4⟩ := r5_ BK194.out; obtain ⟨hfz23_0, hfz23_1, hfz23_2, hfz23_3, hfz23_4⟩ := f5_ BK194.out; obtain ⟨hcz24_0, hcz24_1, hcz24_2, hcz24_3, hcz24_4⟩ := r5_ BK195.out; obtain ⟨hfz24_0, hfz24_1, hfz24_2, hfz24_3, hfz24_4⟩ := f5_ BK195.out))
  refine bodyPost_ret (results_cell_row rfl _ _ gb195 38 #[.bool a0_0, .int .i64 a0_1, .int .i64 a0_2, .int .i64 a0_3, .slice Ao22 y213.length co22] (0, 0) _ rfl (by (with_reducible repeat (first | refine zN ?_ _ | refine zD ?_ | refine zA ?_ _)); refine blk_put (cs := #[.bool a0_0, .int .i64 a0_1, .int .i64 a0_2, .int .i64 a0_3, .slice none 0 0]) ?_ 4 _ rfl; (with_reducible repeat (first | refine zN ?_ _ | refine zD ?_ | refine zA ?_ _)); refine blk_put (cs := #[.bool a0_0, .int .i64 a0_1, .int .i64 a0_2, .int .i64 0, .slice none 0 0]) ?_ 3 _ rfl; (with_reducible repeat (first | refine zN ?_ _ | refine zD ?_ | refine zA ?_ _)); refine blk_put (cs := #[.bool a0_0, .int .i64 a0_1, .int .i64 0, .int .i64 0, .slice none 0 0]) ?_ 2 _ rfl; (with_reducible repeat (first | refine zN ?_ _ | refine zD ?_ | refine zA ?_ _)); refine blk_put (cs := #[.bool a0_0, .int .i64 0, .int .i64 0, .int .i64 0, .slice none 0 0]) ?_ 1 _ rfl; (with_reducible repeat (first | refine zN ?_ _ | refine zD ?_ | refine zA ?_ _)); refine blk_put (cs := #[.bool false, .int .i64 0, .int .i64 0, .int .i64 0, .slice none 0 0]) ?_ 0 _ rfl; (with_reducible repeat (first | refine zN ?_ _ | refine zD ?_ | refine zA ?_ _)); refine blk_far ?_ NB195_194.out _; (with_reducible repeat (first | refine zN ?_ _ | refine zD ?_ | refine zA ?_ _)); exact BK195.out) Try.underlying38 rfl (by kernel_rfl)) rfl ?_
  exact ⟨_, by first | rfl | (simp [errW_none, errW_some] <;> rfl) | (simp [*, errW_none, errW_some] <;> rfl), Kd.N_V (by (with_reducible repeat (first | apply Kd.N_alloc | apply Kd.N_drewN | apply Kd.N_drew)); exact Kd.N_mono (Kd.N_far (p := ⟨gb195, 4, none⟩) (Kd.N_far (p := ⟨gb195, 3, none⟩) (Kd.N_far (p := ⟨gb195, 2, none⟩) (Kd.N_far (p := ⟨gb195, 1, none⟩) (Kd.N_far (p := ⟨gb195, 0, none⟩) (Kd.N_far (p := ⟨gb194, 4, none⟩) (Kd.N_mono (Kd.N_mono HO215.out (fun k_ hk => (⟨hk, hk.2.1⟩ : _ ∧ k_ ≠ gb194))) (fun k_ hk => (⟨hk, hk.1.2.2⟩ : _ ∧ k_ ≠ gb195))) (fun _ hk => hk.1.2) (.slice Ao22 y213.length co22)) (fun _ hk => hk.2) (.bool a0_0)) (fun _ hk => hk.2) (.int .i64 a0_1)) (fun _ hk => hk.2) (.int .i64 a0_2)) (fun _ hk => hk.2) (.int .i64 a0_3)) (fun _ hk => hk.2) (.slice Ao22 y213.length co22)) (fun _ hk => hk.1.1.1)), bel_⟩
/-! ### ropewayref10_Same: function 18 -/
def ropewayref10_Same.l0 : Nat → List (S34) → List (S34) → Int → Int → Option (Bool)
  | 0, _, _, _, _ => none
  | k + 1, x0, x1, x12, x13 => if x13 < x12 then (if 0 ≤ x13 then (if x13 < (x0.length : Int) then (if x13 < (x1.length : Int) then (if (!(((rd_T34 x0 x13).f0) == ((rd_T34 x1 x13).f0)) || ((!(((rd_T34 x0 x13).f1.f0) == ((rd_T34 x1 x13).f1.f0)) || (!(((rd_T34 x0 x13).f1.f1) == ((rd_T34 x1 x13).f1.f1)))))) = true then (some false) else (ropewayref10_Same.l0 k x0 x1 x12 (wrap64 (x13 + 1)))) else (none)) else (none)) else (none)) else (some true)
def ropewayref10_Same.f (k : Nat) (l0 : List (S34)) (l1 : List (S34)) : Option (Bool) := if (l0.length : Int) = (l1.length : Int) then (ropewayref10_Same.l0 k l0 l1 (l0.length : Int) 0) else (some false)
theorem ropewayref10_Same.mono_l : ∀ k, (∀ y0 y1 y2 y3, LeO (ropewayref10_Same.l0 k y0 y1 y2 y3) (ropewayref10_Same.l0 (k + 1) y0 y1 y2 y3))
  | 0 => fun _ _ _ _ r h => by simp [ropewayref10_Same.l0] at h
  | k + 1 => by
    have ih0 := ropewayref10_Same.mono_l k
    · intro y0 y1 y2 y3
      unfold ropewayref10_Same.l0
      repeat' first
      | (with_reducible exact ih0 _ _ _ _)
      | (with_reducible exact LeO.refl _)
      | (with_reducible exact LeO.none _)
      | (with_reducible refine LeO.ite ?_ ?_)
      | (with_reducible refine LeO.bind ?_ (fun _ => ?_))
      | exact ih0 _ _ _ _
      | exact LeO.none _
      | refine LeO.ite ?_ ?_
      | refine LeO.bind ?_ (fun _ => ?_)
theorem ropewayref10_Same.mono : ∀ a0 a1 k, LeO (ropewayref10_Same.f k a0 a1) (ropewayref10_Same.f (k + 1) a0 a1) := by
  intro a0 a1 k
  have ih0 := ropewayref10_Same.mono_l k
  unfold ropewayref10_Same.f
  repeat' first
      | (with_reducible exact ih0 _ _ _ _)
      | (with_reducible exact LeO.refl _)
      | (with_reducible exact LeO.none _)
      | (with_reducible refine LeO.ite ?_ ?_)
      | (with_reducible refine LeO.bind ?_ (fun _ => ?_))
      | exact ih0 _ _ _ _
      | exact LeO.none _
      | refine LeO.ite ?_ ?_
      | refine LeO.bind ?_ (fun _ => ?_)
set_option maxHeartbeats 8000000 in
set_option maxRecDepth 100000 in
theorem ropewayref10_Same.calls (k : Nat) (A0 : Option Addr) (c0 : Nat) (l0 : List (S34)) (A1 : Option Addr) (c1 : Nat) (l1 : List (S34)) (r : Bool) (w : World) (hr0 : Kd.C k34 w A0 l0.length l0) (hc0 : l0.length ≤ c0) (hr1 : Kd.C k34 w A1 l1.length l1) (hc1 : l1.length ≤ c1) (h : ropewayref10_Same.f k l0 l1 = some r) :
    Calls Try.prog 18 #[.slice A0 l0.length c0, .slice A1 l1.length c1] w fun e w' => e = .returned (.bool r) ∧ Drawn0 w w' := by
  have hu34 := Try.underlying34
  have HR0 := zM hr0
  have HC0 := zM hc0
  clear hr0 hc0
  have HR1 := zM hr1
  have HC1 := zM hc1
  clear hr1 hc1
  have H : (if (l0.length : Int) = (l1.length : Int) then (ropewayref10_Same.l0 k l0 l1 (l0.length : Int) 0) else (some false)) = some r := h
  clear h
  by_cases c3 : (l0.length : Int) = (l1.length : Int)
  rotate_left
  · rw [if_neg c3] at H
    have c3b0 : ((l0.length : Int) == (l1.length : Int)) = false := beq_eq_false_iff_ne.mpr c3
    have c3b1 : ((l0.length : Int) != (l1.length : Int)) = true := bne_iff_ne.mpr c3
    have c3b2 : (l0.length == l1.length) = false := by first | simpa using c3 | (simp at c3 ⊢; omega)
    obtain rfl := Option.some.inj H
    go_enter Try.func18, Try.ntmps18
    go_wp2
    repeat (go_quiet (fail); try go_wp2)
    go_ret
    exact ⟨by first | rfl | (simp; done) | (simp [*]; done) | (simp; grind), by repeat (first | exact Drawn0.refl _ | apply Drawn0.step)⟩
  rw [if_pos c3] at H
  have c3b0 : ((l0.length : Int) == (l1.length : Int)) = true := beq_iff_eq.mpr c3
  have c3b1 : ((l0.length : Int) != (l1.length : Int)) = false := bne_eq_false_iff_eq.mpr c3
  have c3b2 : (l0.length == l1.length) = true := by first | simpa using c3 | (simp at c3 ⊢; omega)
  clear c3
  have H' := zM H
  clear H
  go_enter Try.func18, Try.ntmps18
  go_wp2
  repeat (go_quiet (fail); try go_wp2)
  go_loopg [13] k (fun kq v13 w' => ∃ (x13_1 : Int), v13 = .int .i64 x13_1 ∧ Aside0 (ropewayref10_Same.l0 kq l0 l1 (l0.length : Int) x13_1 = some r) ∧ Aside0 (kq ≤ k) ∧ Drawn0 w w')
  case atStart => exact ⟨(0), (by first | rfl | (simp; done) | (simp [*]; done) | (simp; grind)), H', ⟨Nat.le_refl _⟩, by repeat (first | exact Drawn0.refl _ | apply Drawn0.step)⟩
  case round =>
   clear H'
   try clear c1
   try clear p2
   try clear c3
   try clear c3b0
   try clear c3b1
   try clear c3b2
   obtain ⟨x13_1, rfl, HA, HK1, ⟨m1, rfl⟩⟩ := hrel
   cases gk with
   | zero => exact absurd HA.out (by simp [ropewayref10_Same.l0])
   | succ k1 =>
    have H := HA.out
    clear HA
    simp only [ropewayref10_Same.l0] at H
    by_cases c4 : x13_1 < (l0.length : Int)
    rotate_left
    · rw [if_neg c4] at H
      have c4b0 : decide (x13_1 < (l0.length : Int)) = false := decide_eq_false c4
      clear c4
      obtain rfl := Option.some.inj H
      go_wp2
      repeat (go_quiet (fail); try go_wp2)
      go_ret
      exact ⟨by first | rfl | (simp; done) | (simp [*]; done) | (simp; grind), by repeat (first | exact Drawn0.refl _ | apply Drawn0.step)⟩
    rw [if_pos c4] at H
    have c4b0 : decide (x13_1 < (l0.length : Int)) = true := decide_eq_true c4
    clear c4
    by_cases c5 : 0 ≤ x13_1
    rotate_left
    · rw [if_neg c5] at H
      exact absurd H (by simp)
    rw [if_pos c5] at H
    have c5b0 : decide (0 ≤ x13_1) = true := decide_eq_true c5
    clear c5
    by_cases c6 : x13_1 < (l0.length : Int)
    rotate_left
    · rw [if_neg c6] at H
      exact absurd H (by simp)
    rw [if_pos c6] at H
    have c6b0 : decide (x13_1 < (l0.length : Int)) = true := decide_eq_true c6
    clear c6
    by_cases c7 : x13_1 < (l1.length : Int)
    rotate_left
    · rw [if_neg c7] at H
      exact absurd H (by simp)
    rw [if_pos c7] at H
    have c7b0 : decide (x13_1 < (l1.length : Int)) = true := decide_eq_true c7
    clear c7
    by_cases c8 : (!(((rd_T34 l0 x13_1).f0) == ((rd_T34 l1 x13_1).f0)) || ((!(((rd_T34 l0 x13_1).f1.f0) == ((rd_T34 l1 x13_1).f1.f0)) || (!(((rd_T34 l0 x13_1).f1.f1) == ((rd_T34 l1 x13_1).f1.f1)))))) = true
    · rw [if_pos c8] at H
      have c8b0 : (!(((rd_T34 l0 x13_1).f0) == ((rd_T34 l1 x13_1).f0)) || ((!(((rd_T34 l0 x13_1).f1.f0) == ((rd_T34 l1 x13_1).f1.f0)) || (!(((rd_T34 l0 x13_1).f1.f1) == ((rd_T34 l1 x13_1).f1.f1)))))) = true := c8
      clear c8
      obtain rfl := Option.some.inj H
      have p216 : 0 ≤ (x13_1 : Int) := of_decide_eq_true (by first | (with_reducible assumption) | assumption)
      have q216 : x13_1 < (l0.length : Int) := of_decide_eq_true (by first | (with_reducible assumption) | assumption)
      obtain ⟨ad216, e216, hx216_0, hx216_1, hx216_2⟩ := at_T34 HR0.out x13_1 p216 q216
      cases e216
      replace p216 := eq_true p216
      replace q216 := eq_true q216
      have p217 : 0 ≤ (x13_1 : Int) := of_decide_eq_true (by first | (with_reducible assumption) | assumption)
      have q217 : x13_1 < (l1.length : Int) := of_decide_eq_true (by first | (with_reducible assumption) | assumption)
      obtain ⟨ad217, e217, hx217_0, hx217_1, hx217_2⟩ := at_T34 HR1.out x13_1 p217 q217
      cases e217
      replace p217 := eq_true p217
      replace q217 := eq_true q217
      go_wp2
      repeat (go_quiet (fail); try go_wp2)
      go_ret
      exact ⟨by first | rfl | (simp; done) | (simp [*]; done) | (simp; grind), by repeat (first | exact Drawn0.refl _ | apply Drawn0.step)⟩
    rw [if_neg c8] at H
    have c8b0 : (!(((rd_T34 l0 x13_1).f0) == ((rd_T34 l1 x13_1).f0)) || ((!(((rd_T34 l0 x13_1).f1.f0) == ((rd_T34 l1 x13_1).f1.f0)) || (!(((rd_T34 l0 x13_1).f1.f1) == ((rd_T34 l1 x13_1).f1.f1)))))) = false := by simpa using c8
    clear c8
    have H' := zM H
    clear H
    have p216 : 0 ≤ (x13_1 : Int) := of_decide_eq_true (by first | (with_reducible assumption) | assumption)
    have q216 : x13_1 < (l0.length : Int) := of_decide_eq_true (by first | (with_reducible assumption) | assumption)
    obtain ⟨ad216, e216, hx216_0, hx216_1, hx216_2⟩ := at_T34 HR0.out x13_1 p216 q216
    cases e216
    replace p216 := eq_true p216
    replace q216 := eq_true q216
    have p217 : 0 ≤ (x13_1 : Int) := of_decide_eq_true (by first | (with_reducible assumption) | assumption)
    have q217 : x13_1 < (l1.length : Int) := of_decide_eq_true (by first | (with_reducible assumption) | assumption)
    obtain ⟨ad217, e217, hx217_0, hx217_1, hx217_2⟩ := at_T34 HR1.out x13_1 p217 q217
    cases e217
    replace p217 := eq_true p217
    replace q217 := eq_true q217
    go_wp2
    repeat (go_quiet (fail); try go_wp2)
    go_roundg k1
    case measure => have := HK1.out; omega
    case rel => exact ⟨(wrap64 (x13_1 + 1)), (by first | rfl | (simp; done) | (simp [*]; done) | (simp; grind)), H', ⟨by have := HK1.out; omega⟩, by repeat (first | exact Drawn0.refl _ | apply Drawn0.step)⟩
/-! ### ropewayref15_Own: function 19 -/
def ropewayref15_Own.f (a0_0 : Bool) (a0_1 : Int) (a0_2 : Int) (a0_3 : Int) (l0_4 : List (List (S34))) : Option (Bool) := if a0_0 = true then (if (l0_4.length : Int) = 1 then (if 0 < (l0_4.length : Int) then (some (((rd_L3 l0_4 0).length : Int) == 0)) else (none)) else (some false)) else (some false)
set_option maxHeartbeats 8000000 in
set_option maxRecDepth 100000 in
theorem ropewayref15_Own.calls (a0_0 : Bool) (a0_1 : Int) (a0_2 : Int) (a0_3 : Int) (A0_4 : Option Addr) (c0_4 : Nat) (l0_4 : List (List (S34))) (r : Bool) (w : World) (hr0_4 : Kd.C (Kd.slice 34 k34) w A0_4 l0_4.length l0_4) (hc0_4 : l0_4.length ≤ c0_4) (h : ropewayref15_Own.f a0_0 a0_1 a0_2 a0_3 l0_4 = some r) :
    Calls Try.prog 19 #[.agg #[.bool a0_0, .int .i64 a0_1, .int .i64 a0_2, .int .i64 a0_3, .slice A0_4 l0_4.length c0_4]] w fun e w' => e = .returned (.bool r) ∧ Below w.heap.size w w' := by
  have hu38 := Try.underlying38
  have HR0_4 := zM hr0_4
  have HC0_4 := zM hc0_4
  clear hr0_4 hc0_4
  have HB := zM (Below.refl w.heap.size w)
  have H : (if a0_0 = true then (if (l0_4.length : Int) = 1 then (if 0 < (l0_4.length : Int) then (some (((rd_L3 l0_4 0).length : Int) == 0)) else (none)) else (some false)) else (some false)) = some r := h
  clear h
  by_cases c2 : a0_0 = true
  rotate_left
  · replace c2 := Bool.eq_false_iff.mpr c2
    subst c2
    have H1 : (some false) = some r := by rw [if_neg (show ¬ (false = true) by decide)] at H; exact H
    clear H
    have H := H1
    clear H1
    obtain rfl := Option.some.inj H
    go_enter Try.func19, Try.ntmps19
    go_wp2_with (first | ((with_reducible refine gate_dst (N := 1) rfl ?_); (try (refine gate_guard (by rfl) ?_; dsimp only)); refine box_event ?hg (N := 1) ?hd (cs := #[.bool false, .int .i64 a0_1, .int .i64 a0_2, .int .i64 a0_3, .slice A0_4 l0_4.length c0_4]) (t := 38) ?hr ?_; (case hd => rfl); (case hg => rfl); (case hr => first | (go_simp; done) | (go_simp; rfl)); intro gb218 hg w9 hbox hb; have BK218 := zM (hbox); have GW218 := zM (bs_ hg); have GE218 := zM (bs_ hg); replace HB := zM (zB bel_ hb); clear hb hbox hg; obtain ⟨hcz10_0, hcz10_1, hcz10_2, hcz10_3, hcz10_4⟩ := r5_ BK218.out; obtain ⟨hfz10_0, hfz10_1, hfz10_2, hfz10_3, hfz10_4⟩ := f5_ BK218.out))
    go_ret
    exact ⟨by first | rfl | (simp [errW_none, errW_some] <;> rfl) | (simp [*, errW_none, errW_some] <;> rfl), bel_⟩
  subst c2
  have H1 : (if (l0_4.length : Int) = 1 then (if 0 < (l0_4.length : Int) then (some (((rd_L3 l0_4 0).length : Int) == 0)) else (none)) else (some false)) = some r := by rw [if_pos rfl] at H; exact H
  clear H
  have H := H1
  clear H1
  by_cases c3 : (l0_4.length : Int) = 1
  rotate_left
  · rw [if_neg c3] at H
    have c3b0 : ((l0_4.length : Int) == 1) = false := beq_eq_false_iff_ne.mpr c3
    have c3b1 : ((l0_4.length : Int) != 1) = true := bne_iff_ne.mpr c3
    obtain rfl := Option.some.inj H
    go_enter Try.func19, Try.ntmps19
    go_wp2_with (first | ((with_reducible refine gate_dst (N := 1) rfl ?_); (try (refine gate_guard (by rfl) ?_; dsimp only)); refine box_event ?hg (N := 1) ?hd (cs := #[.bool true, .int .i64 a0_1, .int .i64 a0_2, .int .i64 a0_3, .slice A0_4 l0_4.length c0_4]) (t := 38) ?hr ?_; (case hd => rfl); (case hg => rfl); (case hr => first | (go_simp; done) | (go_simp; rfl)); intro gb218 hg w7 hbox hb; have BK218 := zM (hbox); have GW218 := zM (bs_ hg); have GE218 := zM (bs_ hg); replace HB := zM (zB bel_ hb); clear hb hbox hg; obtain ⟨hcz8_0, hcz8_1, hcz8_2, hcz8_3, hcz8_4⟩ := r5_ BK218.out; obtain ⟨hfz8_0, hfz8_1, hfz8_2, hfz8_3, hfz8_4⟩ := f5_ BK218.out))
    go_ret
    exact ⟨by first | rfl | (simp [errW_none, errW_some] <;> rfl) | (simp [*, errW_none, errW_some] <;> rfl), bel_⟩
  rw [if_pos c3] at H
  have c3b0 : ((l0_4.length : Int) == 1) = true := beq_iff_eq.mpr c3
  have c3b1 : ((l0_4.length : Int) != 1) = false := bne_eq_false_iff_eq.mpr c3
  clear c3
  by_cases c4 : 0 < (l0_4.length : Int)
  rotate_left
  · rw [if_neg c4] at H
    exact absurd H (by simp)
  rw [if_pos c4] at H
  have c4b0 : decide (0 < (l0_4.length : Int)) = true := decide_eq_true c4
  have c4b1 : decide (0 < l0_4.length) = true := decide_eq_true (by omega)
  clear c4
  obtain rfl := Option.some.inj H
  go_enter Try.func19, Try.ntmps19
  go_wp2_with (first | ((with_reducible refine gate_dst (N := 1) rfl ?_); (try (refine gate_guard (by rfl) ?_; dsimp only)); refine box_event ?hg (N := 1) ?hd (cs := #[.bool true, .int .i64 a0_1, .int .i64 a0_2, .int .i64 a0_3, .slice A0_4 l0_4.length c0_4]) (t := 38) ?hr ?_; (case hd => rfl); (case hg => rfl); (case hr => first | (go_simp; done) | (go_simp; rfl)); intro gb218 hg w5 hbox hb; have BK218 := zM (hbox); have GW218 := zM (bs_ hg); have GE218 := zM (bs_ hg); replace HB := zM (zB bel_ hb); clear hb hbox hg; obtain ⟨hcz6_0, hcz6_1, hcz6_2, hcz6_3, hcz6_4⟩ := r5_ BK218.out; obtain ⟨hfz6_0, hfz6_1, hfz6_2, hfz6_3, hfz6_4⟩ := f5_ BK218.out; have p219 : 0 ≤ (0 : Int) := (by omega); have q219 : 0 < (l0_4.length : Int) := of_decide_eq_true (by first | (with_reducible assumption) | assumption); obtain ⟨ad219, A219_0, c219_0, e219, hx219_0, hl219_0, hi219_0⟩ := at_L3 HR0_4.out 0 p219 q219; cases e219; have qi219 : (0 < l0_4.length) = True := eq_true (by omega); (try rw [show ((0 : Int)).toNat = 0 from rfl] at hx219_0); (try rw [Addr.add_zero'] at hx219_0); replace hx219_0 := (HB.out.cell (World.block_lt_of_cell? w _ hx219_0)).trans hx219_0; have HR219_0 := zM hi219_0; have HC219_0 := zM hl219_0; clear hi219_0 hl219_0; replace p219 := eq_true p219; replace q219 := eq_true q219))
  go_ret
  exact ⟨by first | rfl | (simp [errW_none, errW_some] <;> rfl) | (simp [*, errW_none, errW_some] <;> rfl), bel_⟩
/-! ### ropewayref05_Same: function 20 -/
def ropewayref05_Same.l0 : Nat → List (S26) → List (S26) → Int → Int → Option (Bool)
  | 0, _, _, _, _ => none
  | k + 1, x0, x1, x12, x13 => if x13 < x12 then (if 0 ≤ x13 then (if x13 < (x0.length : Int) then (if x13 < (x1.length : Int) then (if (!(((rd_T26 x0 x13).f0) == ((rd_T26 x1 x13).f0)) || (!(((rd_T26 x0 x13).f1) == ((rd_T26 x1 x13).f1)))) = true then (some false) else (ropewayref05_Same.l0 k x0 x1 x12 (wrap64 (x13 + 1)))) else (none)) else (none)) else (none)) else (some true)
def ropewayref05_Same.f (k : Nat) (l0 : List (S26)) (l1 : List (S26)) : Option (Bool) := if (l0.length : Int) = (l1.length : Int) then (ropewayref05_Same.l0 k l0 l1 (l0.length : Int) 0) else (some false)
theorem ropewayref05_Same.mono_l : ∀ k, (∀ y0 y1 y2 y3, LeO (ropewayref05_Same.l0 k y0 y1 y2 y3) (ropewayref05_Same.l0 (k + 1) y0 y1 y2 y3))
  | 0 => fun _ _ _ _ r h => by simp [ropewayref05_Same.l0] at h
  | k + 1 => by
    have ih0 := ropewayref05_Same.mono_l k
    · intro y0 y1 y2 y3
      unfold ropewayref05_Same.l0
      repeat' first
      | (with_reducible exact ih0 _ _ _ _)
      | (with_reducible exact LeO.refl _)
      | (with_reducible exact LeO.none _)
      | (with_reducible refine LeO.ite ?_ ?_)
      | (with_reducible refine LeO.bind ?_ (fun _ => ?_))
      | exact ih0 _ _ _ _
      | exact LeO.none _
      | refine LeO.ite ?_ ?_
      | refine LeO.bind ?_ (fun _ => ?_)
theorem ropewayref05_Same.mono : ∀ a0 a1 k, LeO (ropewayref05_Same.f k a0 a1) (ropewayref05_Same.f (k + 1) a0 a1) := by
  intro a0 a1 k
  have ih0 := ropewayref05_Same.mono_l k
  unfold ropewayref05_Same.f
  repeat' first
      | (with_reducible exact ih0 _ _ _ _)
      | (with_reducible exact LeO.refl _)
      | (with_reducible exact LeO.none _)
      | (with_reducible refine LeO.ite ?_ ?_)
      | (with_reducible refine LeO.bind ?_ (fun _ => ?_))
      | exact ih0 _ _ _ _
      | exact LeO.none _
      | refine LeO.ite ?_ ?_
      | refine LeO.bind ?_ (fun _ => ?_)
set_option maxHeartbeats 8000000 in
set_option maxRecDepth 100000 in
theorem ropewayref05_Same.calls (k : Nat) (A0 : Option Addr) (c0 : Nat) (l0 : List (S26)) (A1 : Option Addr) (c1 : Nat) (l1 : List (S26)) (r : Bool) (w : World) (hr0 : Kd.C k26 w A0 l0.length l0) (hc0 : l0.length ≤ c0) (hr1 : Kd.C k26 w A1 l1.length l1) (hc1 : l1.length ≤ c1) (h : ropewayref05_Same.f k l0 l1 = some r) :
    Calls Try.prog 20 #[.slice A0 l0.length c0, .slice A1 l1.length c1] w fun e w' => e = .returned (.bool r) ∧ Drawn0 w w' := by
  have hu26 := Try.underlying26
  have HR0 := zM hr0
  have HC0 := zM hc0
  clear hr0 hc0
  have HR1 := zM hr1
  have HC1 := zM hc1
  clear hr1 hc1
  have H : (if (l0.length : Int) = (l1.length : Int) then (ropewayref05_Same.l0 k l0 l1 (l0.length : Int) 0) else (some false)) = some r := h
  clear h
  by_cases c3 : (l0.length : Int) = (l1.length : Int)
  rotate_left
  · rw [if_neg c3] at H
    have c3b0 : ((l0.length : Int) == (l1.length : Int)) = false := beq_eq_false_iff_ne.mpr c3
    have c3b1 : ((l0.length : Int) != (l1.length : Int)) = true := bne_iff_ne.mpr c3
    have c3b2 : (l0.length == l1.length) = false := by first | simpa using c3 | (simp at c3 ⊢; omega)
    obtain rfl := Option.some.inj H
    go_enter Try.func20, Try.ntmps20
    go_wp2
    repeat (go_quiet (fail); try go_wp2)
    go_ret
    exact ⟨by first | rfl | (simp; done) | (simp [*]; done) | (simp; grind), by repeat (first | exact Drawn0.refl _ | apply Drawn0.step)⟩
  rw [if_pos c3] at H
  have c3b0 : ((l0.length : Int) == (l1.length : Int)) = true := beq_iff_eq.mpr c3
  have c3b1 : ((l0.length : Int) != (l1.length : Int)) = false := bne_eq_false_iff_eq.mpr c3
  have c3b2 : (l0.length == l1.length) = true := by first | simpa using c3 | (simp at c3 ⊢; omega)
  clear c3
  have H' := zM H
  clear H
  go_enter Try.func20, Try.ntmps20
  go_wp2
  repeat (go_quiet (fail); try go_wp2)
  go_loopg [13] k (fun kq v13 w' => ∃ (x13_1 : Int), v13 = .int .i64 x13_1 ∧ Aside0 (ropewayref05_Same.l0 kq l0 l1 (l0.length : Int) x13_1 = some r) ∧ Aside0 (kq ≤ k) ∧ Drawn0 w w')
  case atStart => exact ⟨(0), (by first | rfl | (simp; done) | (simp [*]; done) | (simp; grind)), H', ⟨Nat.le_refl _⟩, by repeat (first | exact Drawn0.refl _ | apply Drawn0.step)⟩
  case round =>
   clear H'
   try clear c1
   try clear c2
   try clear p2
   try clear c3
   try clear c3b0
   try clear c3b1
   try clear c3b2
   obtain ⟨x13_1, rfl, HA, HK1, ⟨m1, rfl⟩⟩ := hrel
   cases gk with
   | zero => exact absurd HA.out (by simp [ropewayref05_Same.l0])
   | succ k1 =>
    have H := HA.out
    clear HA
    simp only [ropewayref05_Same.l0] at H
    by_cases c4 : x13_1 < (l0.length : Int)
    rotate_left
    · rw [if_neg c4] at H
      have c4b0 : decide (x13_1 < (l0.length : Int)) = false := decide_eq_false c4
      clear c4
      obtain rfl := Option.some.inj H
      go_wp2
      repeat (go_quiet (fail); try go_wp2)
      go_ret
      exact ⟨by first | rfl | (simp; done) | (simp [*]; done) | (simp; grind), by repeat (first | exact Drawn0.refl _ | apply Drawn0.step)⟩
    rw [if_pos c4] at H
    have c4b0 : decide (x13_1 < (l0.length : Int)) = true := decide_eq_true c4
    clear c4
    by_cases c5 : 0 ≤ x13_1
    rotate_left
    · rw [if_neg c5] at H
      exact absurd H (by simp)
    rw [if_pos c5] at H
    have c5b0 : decide (0 ≤ x13_1) = true := decide_eq_true c5
    clear c5
    by_cases c6 : x13_1 < (l0.length : Int)
    rotate_left
    · rw [if_neg c6] at H
      exact absurd H (by simp)
    rw [if_pos c6] at H
    have c6b0 : decide (x13_1 < (l0.length : Int)) = true := decide_eq_true c6
    clear c6
    by_cases c7 : x13_1 < (l1.length : Int)
    rotate_left
    · rw [if_neg c7] at H
      exact absurd H (by simp)
    rw [if_pos c7] at H
    have c7b0 : decide (x13_1 < (l1.length : Int)) = true := decide_eq_true c7
    clear c7
    by_cases c8 : (!(((rd_T26 l0 x13_1).f0) == ((rd_T26 l1 x13_1).f0)) || (!(((rd_T26 l0 x13_1).f1) == ((rd_T26 l1 x13_1).f1)))) = true
    · rw [if_pos c8] at H
      have c8b0 : (!(((rd_T26 l0 x13_1).f0) == ((rd_T26 l1 x13_1).f0)) || (!(((rd_T26 l0 x13_1).f1) == ((rd_T26 l1 x13_1).f1)))) = true := c8
      clear c8
      obtain rfl := Option.some.inj H
      have p220 : 0 ≤ (x13_1 : Int) := of_decide_eq_true (by first | (with_reducible assumption) | assumption)
      have q220 : x13_1 < (l0.length : Int) := of_decide_eq_true (by first | (with_reducible assumption) | assumption)
      obtain ⟨ad220, e220, hx220_0, hx220_1⟩ := at_T26 HR0.out x13_1 p220 q220
      cases e220
      replace p220 := eq_true p220
      replace q220 := eq_true q220
      have p221 : 0 ≤ (x13_1 : Int) := of_decide_eq_true (by first | (with_reducible assumption) | assumption)
      have q221 : x13_1 < (l1.length : Int) := of_decide_eq_true (by first | (with_reducible assumption) | assumption)
      obtain ⟨ad221, e221, hx221_0, hx221_1⟩ := at_T26 HR1.out x13_1 p221 q221
      cases e221
      replace p221 := eq_true p221
      replace q221 := eq_true q221
      go_wp2
      repeat (go_quiet (fail); try go_wp2)
      go_ret
      exact ⟨by first | rfl | (simp; done) | (simp [*]; done) | (simp; grind), by repeat (first | exact Drawn0.refl _ | apply Drawn0.step)⟩
    rw [if_neg c8] at H
    have c8b0 : (!(((rd_T26 l0 x13_1).f0) == ((rd_T26 l1 x13_1).f0)) || (!(((rd_T26 l0 x13_1).f1) == ((rd_T26 l1 x13_1).f1)))) = false := by simpa using c8
    clear c8
    have H' := zM H
    clear H
    have p220 : 0 ≤ (x13_1 : Int) := of_decide_eq_true (by first | (with_reducible assumption) | assumption)
    have q220 : x13_1 < (l0.length : Int) := of_decide_eq_true (by first | (with_reducible assumption) | assumption)
    obtain ⟨ad220, e220, hx220_0, hx220_1⟩ := at_T26 HR0.out x13_1 p220 q220
    cases e220
    replace p220 := eq_true p220
    replace q220 := eq_true q220
    have p221 : 0 ≤ (x13_1 : Int) := of_decide_eq_true (by first | (with_reducible assumption) | assumption)
    have q221 : x13_1 < (l1.length : Int) := of_decide_eq_true (by first | (with_reducible assumption) | assumption)
    obtain ⟨ad221, e221, hx221_0, hx221_1⟩ := at_T26 HR1.out x13_1 p221 q221
    cases e221
    replace p221 := eq_true p221
    replace q221 := eq_true q221
    go_wp2
    repeat (go_quiet (fail); try go_wp2)
    go_roundg k1
    case measure => have := HK1.out; omega
    case rel => exact ⟨(wrap64 (x13_1 + 1)), (by first | rfl | (simp; done) | (simp [*]; done) | (simp; grind)), H', ⟨by have := HK1.out; omega⟩, by repeat (first | exact Drawn0.refl _ | apply Drawn0.step)⟩
end Go.Proofs.Ytoelfknhnmhlmaa.PSnapRuns
