/- The law RoundStays holds: its row, out of the pure statement (the session's) and the printed walk. For every input; no condition. -/
import Derived.Test.YtmgiaappokkjfaaRows
import Derived.Test.YtmgiaappokkjfaaPRoundStaysx17
import Derived.Test.YtmgiaappokkjfaaPureRoundStays
import Derived.Test.YtmgiaappokkjfaaSRoundStaysXOpen
import Derived.WalkKit
import Derived.ProofKit
import Derived.OpenShut
import Derived.ShutString
import Derived.ChangeOld
import Derived.Below
import Derived.SizedLaws
import Derived.Laws.Cover2
namespace Go.Proofs.Ytmgiaappokkjfaa.roundStays
open Go.ChangeShapes Go.WideShapes Go.ChangeAt Go.RowKit Go.Proofs.YtmgiaappokkjfaaX Go.Proofs.YtmgiaappokkjfaaW.PrintWords Go.Proofs.Ytmgiaappokkjfaa.PRoundStays
open Go.ChangeMaps (open_string shut_string)
set_option linter.unusedVariables false
theorem own : ownKnob Try.prog.godebug = none := by kernel_rfl
theorem laidOut : laidOutB Try.prog = true := by kernel_rfl
set_option maxRecDepth 100000 in
set_option maxHeartbeats 1000000 in
theorem lifted (os : Os) (started : os.Started) (H : Type) (enc : TypeId × Value → H) :
    ReturnsInHanded {} Try.checked os 3 .any (Rows.roundStaysSpec.pre6 enc Try.prog Try.f3 Rows.roundStaysRow.domain false) (Rows.roundStaysSpec.post enc Try.prog Try.f3 false true false false) := by
  refine returnsInHanded_of_change_sized (C := Try.checked) own started (by kernel_rfl) Try.func3
    (ChangeSpec.witness6 (enc := enc) (C := Try.checked) false ⟨#[], #[.agg #[(.int .i64 0), (.int .i64 0), (.int .i64 0), (.int .i64 0), (.int .i64 0), (.int .i64 0), (.int .i64 0), (.slice none 0 0), (.slice none 0 0)], .slice none 0 0], []⟩ 8 (by kernel_rfl) (by kernel_rfl) (by kernel_rfl) (by kernel_rfl)) ?_
  intro W base args ds gs before hval0 hW hcnd hsz0 _
  have hsz : (DataW.weightsEach Try.prog (Try.f3.params.toList ++ Rows.roundStaysSpec.plain.varTypes Try.prog) (ds ++ gs)).all (· ≤ reachBytes) = true := hsz0
  have hval : ∀ (j : Nat) t v, Try.f3.params[j]? = some t → args[j]? = some v → Value.okWide Try.prog W .any base t v := hval0
  have hW' := hW
  obtain ⟨p, q, hA0, hV, rfl, hfz, hnd⟩ := hW
  have hA : DataW.TrodAll enc Try.prog W 0 (fun _ => true) true Try.f3.params.toList args.toList ds p := hA0
  rw [Try.params3] at hA hval hsz
  obtain ⟨v0, vs0, d0, ds0, p0, q0, hargs, rfl, rfl, h0, r0⟩ := trodAll_cons hA
  obtain ⟨v1, vs1, d1, ds1, p1, q1, rfl, rfl, rfl, h1, r1⟩ := trodAll_cons r0
  obtain ⟨rfl, rfl, rfl⟩ := trodAll_nil r1
  obtain rfl : args = #[v0, v1] := by cases args; simp_all
  obtain ⟨rfl, rfl⟩ := trodVars_none hV
  have k0 := h0
  have lt0 : ∀ x ∈ p0, x.block < W.heap.size := by obtain ⟨m, hm⟩ := k0; exact DataW.trod_lt m _ _ _ hm
  obtain ⟨x0, hK0, hg0⟩ := opens_param (opens_struct (fun x : S27 => (x.f0, x.f1, x.f2, x.f3, x.f4, x.f5, x.f6, x.f7)) (fun x => ⟨x.1, x.2.1, x.2.2.1, x.2.2.2.1, x.2.2.2.2.1, x.2.2.2.2.2.1, x.2.2.2.2.2.2.1, x.2.2.2.2.2.2.2⟩) (fun _ => rfl) (opensAt_cons (opens_int Try.underlying3) rfl (by kernel_rfl) (opensAt_cons (opens_int Try.underlying3) rfl (by kernel_rfl) (opensAt_cons (opens_int Try.underlying3) rfl (by kernel_rfl) (opensAt_cons (opens_int Try.underlying3) rfl (by kernel_rfl) (opensAt_cons (opens_int Try.underlying3) rfl (by kernel_rfl) (opensAt_cons (opens_struct (fun x : S23 => (x.f0, x.f1)) (fun x => ⟨x.1, x.2⟩) (fun _ => rfl) (opensAt_cons (opens_int Try.underlying3) rfl (by kernel_rfl) (opensAt_one (opens_int Try.underlying3) (by kernel_rfl))) Try.underlying23 (by kernel_rfl)) rfl (by kernel_rfl) (opensAt_cons (opens_slice (opens_struct (fun x : S43 => (x.f0, x.f1)) (fun x => ⟨x.1, x.2⟩) (fun _ => rfl) (opensAt_cons (opens_int Try.underlying3) rfl (by kernel_rfl) (opensAt_one (opens_struct (fun x : S23 => (x.f0, x.f1)) (fun x => ⟨x.1, x.2⟩) (fun _ => rfl) (opensAt_cons (opens_int Try.underlying3) rfl (by kernel_rfl) (opensAt_one (opens_int Try.underlying3) (by kernel_rfl))) Try.underlying23 (by kernel_rfl)) (by kernel_rfl))) Try.underlying43 (by kernel_rfl)) Try.underlying24 (by kernel_rfl)) rfl (by kernel_rfl) (opensAt_one (opens_slice (opens_struct (fun x : S48 => (x.f0, x.f1, x.f2)) (fun x => ⟨x.1, x.2.1, x.2.2⟩) (fun _ => rfl) (opensAt_cons (opens_int Try.underlying3) rfl (by kernel_rfl) (opensAt_cons (opens_struct (fun x : S45 => (x.f0, x.f1)) (fun x => ⟨x.1, x.2⟩) (fun _ => rfl) (opensAt_cons (opens_int Try.underlying3) rfl (by kernel_rfl) (opensAt_one (opens_int Try.underlying3) (by kernel_rfl))) Try.underlying45 (by kernel_rfl)) rfl (by kernel_rfl) (opensAt_one (opens_float Try.underlying46) (by kernel_rfl)))) Try.underlying48 (by kernel_rfl)) Try.underlying25 (by kernel_rfl)) (by kernel_rfl))))))))) Try.underlying27 (by kernel_rfl)) h0 hsz (j := 0) (t := 27) rfl rfl
  obtain ⟨cs0, rfl, _⟩ := okWide_struct Try.underlying27 (hval 0 27 v0 rfl rfl)
  have hK0' : k27.K W x0 cs0.toList := hK0
  obtain ⟨A0_7, c0_7, A0_8, c0_8, hcs0, hc0_7, hr0_7, hc0_8, hr0_8⟩ := k27_open hK0'
  obtain rfl := agg_of hcs0
  have k1 := h1
  have lt1 : ∀ x ∈ p1, x.block < W.heap.size := by obtain ⟨m, hm⟩ := k1; exact DataW.trod_lt m _ _ _ hm
  obtain ⟨x1, hK1, hg1⟩ := opens_param (opens_slice (opens_struct (fun x : S27 => (x.f0, x.f1, x.f2, x.f3, x.f4, x.f5, x.f6, x.f7)) (fun x => ⟨x.1, x.2.1, x.2.2.1, x.2.2.2.1, x.2.2.2.2.1, x.2.2.2.2.2.1, x.2.2.2.2.2.2.1, x.2.2.2.2.2.2.2⟩) (fun _ => rfl) (opensAt_cons (opens_int Try.underlying3) rfl (by kernel_rfl) (opensAt_cons (opens_int Try.underlying3) rfl (by kernel_rfl) (opensAt_cons (opens_int Try.underlying3) rfl (by kernel_rfl) (opensAt_cons (opens_int Try.underlying3) rfl (by kernel_rfl) (opensAt_cons (opens_int Try.underlying3) rfl (by kernel_rfl) (opensAt_cons (opens_struct (fun x : S23 => (x.f0, x.f1)) (fun x => ⟨x.1, x.2⟩) (fun _ => rfl) (opensAt_cons (opens_int Try.underlying3) rfl (by kernel_rfl) (opensAt_one (opens_int Try.underlying3) (by kernel_rfl))) Try.underlying23 (by kernel_rfl)) rfl (by kernel_rfl) (opensAt_cons (opens_slice (opens_struct (fun x : S43 => (x.f0, x.f1)) (fun x => ⟨x.1, x.2⟩) (fun _ => rfl) (opensAt_cons (opens_int Try.underlying3) rfl (by kernel_rfl) (opensAt_one (opens_struct (fun x : S23 => (x.f0, x.f1)) (fun x => ⟨x.1, x.2⟩) (fun _ => rfl) (opensAt_cons (opens_int Try.underlying3) rfl (by kernel_rfl) (opensAt_one (opens_int Try.underlying3) (by kernel_rfl))) Try.underlying23 (by kernel_rfl)) (by kernel_rfl))) Try.underlying43 (by kernel_rfl)) Try.underlying24 (by kernel_rfl)) rfl (by kernel_rfl) (opensAt_one (opens_slice (opens_struct (fun x : S48 => (x.f0, x.f1, x.f2)) (fun x => ⟨x.1, x.2.1, x.2.2⟩) (fun _ => rfl) (opensAt_cons (opens_int Try.underlying3) rfl (by kernel_rfl) (opensAt_cons (opens_struct (fun x : S45 => (x.f0, x.f1)) (fun x => ⟨x.1, x.2⟩) (fun _ => rfl) (opensAt_cons (opens_int Try.underlying3) rfl (by kernel_rfl) (opensAt_one (opens_int Try.underlying3) (by kernel_rfl))) Try.underlying45 (by kernel_rfl)) rfl (by kernel_rfl) (opensAt_one (opens_float Try.underlying46) (by kernel_rfl)))) Try.underlying48 (by kernel_rfl)) Try.underlying25 (by kernel_rfl)) (by kernel_rfl))))))))) Try.underlying27 (by kernel_rfl)) Try.underlying28 (by kernel_rfl)) h1 hsz (j := 1) (t := 28) rfl rfl
  obtain ⟨a1, len1, cap1, rfl⟩ := okWide_slice Try.underlying28 (hval 1 28 v1 rfl rfl)
  obtain ⟨A1, c1, hcs1, hc1, hr1⟩ := hK1
  obtain ⟨rfl, rfl, rfl⟩ : a1 = A1 ∧ len1 = x1.length ∧ cap1 = c1 := by simpa [Value.cells] using hcs1
  have hP := Pure.RoundStays (x0.f0) (x0.f1) (x0.f2) (x0.f3) (x0.f4) (x0.f5.f0) (x0.f5.f1) (x0.f6) (x0.f7) x1 (hg0.1) (hg0.2.1) (hg0.2.2.1) (hg0.2.2.2.1) (hg0.2.2.2.2.1) (hg0.2.2.2.2.2.1.1) (hg0.2.2.2.2.2.1.2) ⟨hg0.2.2.2.2.2.2.1.1, hg0.2.2.2.2.2.2.1.2.1, fun y_0 hy_0 => ⟨(hg0.2.2.2.2.2.2.1.2.2 y_0 hy_0).1, ⟨(hg0.2.2.2.2.2.2.1.2.2 y_0 hy_0).2.1, (hg0.2.2.2.2.2.2.1.2.2 y_0 hy_0).2.2⟩⟩⟩ ⟨hg0.2.2.2.2.2.2.2.1, hg0.2.2.2.2.2.2.2.2.1, fun y_0 hy_0 => ⟨(hg0.2.2.2.2.2.2.2.2.2 y_0 hy_0).1, ⟨(hg0.2.2.2.2.2.2.2.2.2 y_0 hy_0).2.1.1, (hg0.2.2.2.2.2.2.2.2.2 y_0 hy_0).2.1.2⟩, (hg0.2.2.2.2.2.2.2.2.2 y_0 hy_0).2.2⟩⟩ ⟨hg1.1, hg1.2.1, fun y_0 hy_0 => ⟨(hg1.2.2 y_0 hy_0).1, (hg1.2.2 y_0 hy_0).2.1, (hg1.2.2 y_0 hy_0).2.2.1, (hg1.2.2 y_0 hy_0).2.2.2.1, (hg1.2.2 y_0 hy_0).2.2.2.2.1, ⟨(hg1.2.2 y_0 hy_0).2.2.2.2.2.1.1, (hg1.2.2 y_0 hy_0).2.2.2.2.2.1.2⟩, ⟨(hg1.2.2 y_0 hy_0).2.2.2.2.2.2.1.1, (hg1.2.2 y_0 hy_0).2.2.2.2.2.2.1.2.1, fun y_1 hy_1 => ⟨((hg1.2.2 y_0 hy_0).2.2.2.2.2.2.1.2.2 y_1 hy_1).1, ⟨((hg1.2.2 y_0 hy_0).2.2.2.2.2.2.1.2.2 y_1 hy_1).2.1, ((hg1.2.2 y_0 hy_0).2.2.2.2.2.2.1.2.2 y_1 hy_1).2.2⟩⟩⟩, ⟨(hg1.2.2 y_0 hy_0).2.2.2.2.2.2.2.1, (hg1.2.2 y_0 hy_0).2.2.2.2.2.2.2.2.1, fun y_1 hy_1 => ⟨((hg1.2.2 y_0 hy_0).2.2.2.2.2.2.2.2.2 y_1 hy_1).1, ⟨((hg1.2.2 y_0 hy_0).2.2.2.2.2.2.2.2.2 y_1 hy_1).2.1.1, ((hg1.2.2 y_0 hy_0).2.2.2.2.2.2.2.2.2 y_1 hy_1).2.1.2⟩, ((hg1.2.2 y_0 hy_0).2.2.2.2.2.2.2.2.2 y_1 hy_1).2.2⟩⟩⟩⟩
  clear hA0 hval0 hsz0 hsz
  obtain ⟨k, hP⟩ := hP
  refine (ropewaylaw14_RoundStays.calls k (x0.f0) (x0.f1) (x0.f2) (x0.f3) (x0.f4) (x0.f5.f0) (x0.f5.f1) _ _ (x0.f6) _ _ (x0.f7) _ _ x1 true W hr0_7 hc0_7 hr0_8 hc0_8 hr1 hc1 ⟨rfl⟩ hP).mono fun e W' he => ?_
  obtain ⟨rfl, bel0⟩ := he
  have bel : Below W.heap.size W W' := bel0
  exact ⟨_, rfl, _, _, _, [], _, [], hW', trodAll_mk1 (shut_bool Try.underlying4 _), (trodAll_cons_mk (Below.trod laidOut (by kernel_rfl) (of_decide_eq_true (by kernel_rfl)) k0 bel lt0) (trodAll_cons_mk (Below.trod laidOut (by kernel_rfl) (of_decide_eq_true (by kernel_rfl)) k1 bel lt1) trodAll_mk0)), rfl, bel.frame _, fun h => by cases h⟩
theorem over : Rows.roundStaysRow.holds Try.pinned (OpenSpec.ofChange Rows.roundStaysSpec) :=
  OpenClaim.holds_of_wide 3 Try.f3 rfl rfl rfl rfl rfl rfl rfl ⟨rfl, rfl, rfl, rfl, rfl⟩ rfl rfl rfl rfl rfl (by kernel_rfl) Try.func3 (by kernel_rfl)
    (of_decide_eq_true (by kernel_rfl)) (by unfold Func.isWrapper; first | (rw [if_pos (by decide +kernel)]; kernel_rfl) | (rw [if_neg (by decide +kernel)]; exact ⟨rfl, rfl⟩))
    (fun os started H enc _ => lifted os started H enc)
theorem proved : Rows.RoundStaysSaid := over
#print axioms proved
end Go.Proofs.Ytmgiaappokkjfaa.roundStays
namespace Go.Proofs.Ytmgiaappokkjfaa
/-- The row, under a short name, for the claim. -/
theorem roundStays_holds : Rows.RoundStaysSaid := roundStays.proved
end Go.Proofs.Ytmgiaappokkjfaa
