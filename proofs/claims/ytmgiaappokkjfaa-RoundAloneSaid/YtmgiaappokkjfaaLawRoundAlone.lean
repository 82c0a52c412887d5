/- The law RoundAlone holds: its row, out of the pure statement (the session's) and the printed walk. For every input; no condition. -/
import Derived.Test.YtmgiaappokkjfaaRows
import Derived.Test.YtmgiaappokkjfaaPRoundAlonex19
import Derived.Test.YtmgiaappokkjfaaPureRoundAlone
import Derived.Test.YtmgiaappokkjfaaSRoundAloneXOpen
import Derived.WalkKit
import Derived.ProofKit
import Derived.OpenShut
import Derived.ShutString
import Derived.ChangeOld
import Derived.Below
import Derived.SizedLaws
import Derived.Laws.Cover2
namespace Go.Proofs.Ytmgiaappokkjfaa.roundAlone
open Go.ChangeShapes Go.WideShapes Go.ChangeAt Go.RowKit Go.Proofs.YtmgiaappokkjfaaX Go.Proofs.YtmgiaappokkjfaaW.PrintWords Go.Proofs.Ytmgiaappokkjfaa.PRoundAlone
open Go.ChangeMaps (open_string shut_string)
set_option linter.unusedVariables false
theorem own : ownKnob Try.prog.godebug = none := by kernel_rfl
theorem laidOut : laidOutB Try.prog = true := by kernel_rfl
set_option maxRecDepth 100000 in
set_option maxHeartbeats 1000000 in
theorem lifted (os : Os) (started : os.Started) (H : Type) (enc : TypeId × Value → H) :
    ReturnsInHanded {} Try.checked os 6 .any (Rows.roundAloneSpec.pre6 enc Try.prog Try.f6 Rows.roundAloneRow.domain false) (Rows.roundAloneSpec.post enc Try.prog Try.f6 false true false false) := by
  refine returnsInHanded_of_change_sized (C := Try.checked) own started (by kernel_rfl) Try.func6
    (ChangeSpec.witness6 (enc := enc) (C := Try.checked) false ⟨#[], #[.agg #[(.int .i64 0), (.int .i64 0), (.int .i64 0), (.int .i64 0), (.int .i64 0), (.int .i64 0), (.int .i64 0), (.slice none 0 0), (.slice none 0 0)], .int .i64 0, .agg #[(.int .i64 0), (.int .i64 0), (.int .i64 0), (.int .i64 0), (.int .i64 0), (.int .i64 0), (.int .i64 0), (.slice none 0 0), (.slice none 0 0)]], []⟩ 8 (by kernel_rfl) (by kernel_rfl) (by kernel_rfl) (by kernel_rfl)) ?_
  intro W base args ds gs before hval0 hW hcnd hsz0 _
  have hsz : (DataW.weightsEach Try.prog (Try.f6.params.toList ++ Rows.roundAloneSpec.plain.varTypes Try.prog) (ds ++ gs)).all (· ≤ reachBytes) = true := hsz0
  have hval : ∀ (j : Nat) t v, Try.f6.params[j]? = some t → args[j]? = some v → Value.okWide Try.prog W .any base t v := hval0
  have hW' := hW
  obtain ⟨p, q, hA0, hV, rfl, hfz, hnd⟩ := hW
  have hA : DataW.TrodAll enc Try.prog W 0 (fun _ => true) true Try.f6.params.toList args.toList ds p := hA0
  rw [Try.params6] at hA hval hsz
  obtain ⟨v0, vs0, d0, ds0, p0, q0, hargs, rfl, rfl, h0, r0⟩ := trodAll_cons hA
  obtain ⟨v1, vs1, d1, ds1, p1, q1, rfl, rfl, rfl, h1, r1⟩ := trodAll_cons r0
  obtain ⟨v2, vs2, d2, ds2, p2, q2, rfl, rfl, rfl, h2, r2⟩ := trodAll_cons r1
  obtain ⟨rfl, rfl, rfl⟩ := trodAll_nil r2
  obtain rfl : args = #[v0, v1, v2] := by cases args; simp_all
  obtain ⟨rfl, rfl⟩ := trodVars_none hV
  have k0 := h0
  have lt0 : ∀ x ∈ p0, x.block < W.heap.size := by obtain ⟨m, hm⟩ := k0; exact DataW.trod_lt m _ _ _ hm
  obtain ⟨x0, hK0, hg0⟩ := opens_param (opens_struct (fun x : S27 => (x.f0, x.f1, x.f2, x.f3, x.f4, x.f5, x.f6, x.f7)) (fun x => ⟨x.1, x.2.1, x.2.2.1, x.2.2.2.1, x.2.2.2.2.1, x.2.2.2.2.2.1, x.2.2.2.2.2.2.1, x.2.2.2.2.2.2.2⟩) (fun _ => rfl) (opensAt_cons (opens_int Try.underlying3) rfl (by kernel_rfl) (opensAt_cons (opens_int Try.underlying3) rfl (by kernel_rfl) (opensAt_cons (opens_int Try.underlying3) rfl (by kernel_rfl) (opensAt_cons (opens_int Try.underlying3) rfl (by kernel_rfl) (opensAt_cons (opens_int Try.underlying3) rfl (by kernel_rfl) (opensAt_cons (opens_struct (fun x : S23 => (x.f0, x.f1)) (fun x => ⟨x.1, x.2⟩) (fun _ => rfl) (opensAt_cons (opens_int Try.underlying3) rfl (by kernel_rfl) (opensAt_one (opens_int Try.underlying3) (by kernel_rfl))) Try.underlying23 (by kernel_rfl)) rfl (by kernel_rfl) (opensAt_cons (opens_slice (opens_struct (fun x : S43 => (x.f0, x.f1)) (fun x => ⟨x.1, x.2⟩) (fun _ => rfl) (opensAt_cons (opens_int Try.underlying3) rfl (by kernel_rfl) (opensAt_one (opens_struct (fun x : S23 => (x.f0, x.f1)) (fun x => ⟨x.1, x.2⟩) (fun _ => rfl) (opensAt_cons (opens_int Try.underlying3) rfl (by kernel_rfl) (opensAt_one (opens_int Try.underlying3) (by kernel_rfl))) Try.underlying23 (by kernel_rfl)) (by kernel_rfl))) Try.underlying43 (by kernel_rfl)) Try.underlying24 (by kernel_rfl)) rfl (by kernel_rfl) (opensAt_one (opens_slice (opens_struct (fun x : S48 => (x.f0, x.f1, x.f2)) (fun x => ⟨x.1, x.2.1, x.2.2⟩) (fun _ => rfl) (opensAt_cons (opens_int Try.underlying3) rfl (by kernel_rfl) (opensAt_cons (opens_struct (fun x : S45 => (x.f0, x.f1)) (fun x => ⟨x.1, x.2⟩) (fun _ => rfl) (opensAt_cons (opens_int Try.underlying3) rfl (by kernel_rfl) (opensAt_one (opens_int Try.underlying3) (by kernel_rfl))) Try.underlying45 (by kernel_rfl)) rfl (by kernel_rfl) (opensAt_one (opens_float Try.underlying46) (by kernel_rfl)))) Try.underlying48 (by kernel_rfl)) Try.underlying25 (by kernel_rfl)) (by kernel_rfl))))))))) Try.underlying27 (by kernel_rfl)) h0 hsz (j := 0) (t := 27) rfl rfl
  obtain ⟨cs0, rfl, _⟩ := okWide_struct Try.underlying27 (hval 0 27 v0 rfl rfl)
  have hK0' : k27.K W x0 cs0.toList := hK0
  obtain ⟨A0_7, c0_7, A0_8, c0_8, hcs0, hc0_7, hr0_7, hc0_8, hr0_8⟩ := k27_open hK0'
  obtain rfl := agg_of hcs0
  have k1 := h1
  have lt1 : ∀ x ∈ p1, x.block < W.heap.size := by obtain ⟨m, hm⟩ := k1; exact DataW.trod_lt m _ _ _ hm
  obtain ⟨x1, hK1, hg1⟩ := opens_param (opens_int Try.underlying3) h1 hsz (j := 1) (t := 3) rfl rfl
  obtain ⟨y1, rfl⟩ := px_okWide_int Try.underlying3 (hval 1 3 v1 rfl rfl)
  obtain rfl : y1 = x1 := by simpa [Value.cells, Kd.int, Kd.scalar] using hK1
  have k2 := h2
  have lt2 : ∀ x ∈ p2, x.block < W.heap.size := by obtain ⟨m, hm⟩ := k2; exact DataW.trod_lt m _ _ _ hm
  obtain ⟨x2, hK2, hg2⟩ := opens_param (opens_struct (fun x : S27 => (x.f0, x.f1, x.f2, x.f3, x.f4, x.f5, x.f6, x.f7)) (fun x => ⟨x.1, x.2.1, x.2.2.1, x.2.2.2.1, x.2.2.2.2.1, x.2.2.2.2.2.1, x.2.2.2.2.2.2.1, x.2.2.2.2.2.2.2⟩) (fun _ => rfl) (opensAt_cons (opens_int Try.underlying3) rfl (by kernel_rfl) (opensAt_cons (opens_int Try.underlying3) rfl (by kernel_rfl) (opensAt_cons (opens_int Try.underlying3) rfl (by kernel_rfl) (opensAt_cons (opens_int Try.underlying3) rfl (by kernel_rfl) (opensAt_cons (opens_int Try.underlying3) rfl (by kernel_rfl) (opensAt_cons (opens_struct (fun x : S23 => (x.f0, x.f1)) (fun x => ⟨x.1, x.2⟩) (fun _ => rfl) (opensAt_cons (opens_int Try.underlying3) rfl (by kernel_rfl) (opensAt_one (opens_int Try.underlying3) (by kernel_rfl))) Try.underlying23 (by kernel_rfl)) rfl (by kernel_rfl) (opensAt_cons (opens_slice (opens_struct (fun x : S43 => (x.f0, x.f1)) (fun x => ⟨x.1, x.2⟩) (fun _ => rfl) (opensAt_cons (opens_int Try.underlying3) rfl (by kernel_rfl) (opensAt_one (opens_struct (fun x : S23 => (x.f0, x.f1)) (fun x => ⟨x.1, x.2⟩) (fun _ => rfl) (opensAt_cons (opens_int Try.underlying3) rfl (by kernel_rfl) (opensAt_one (opens_int Try.underlying3) (by kernel_rfl))) Try.underlying23 (by kernel_rfl)) (by kernel_rfl))) Try.underlying43 (by kernel_rfl)) Try.underlying24 (by kernel_rfl)) rfl (by kernel_rfl) (opensAt_one (opens_slice (opens_struct (fun x : S48 => (x.f0, x.f1, x.f2)) (fun x => ⟨x.1, x.2.1, x.2.2⟩) (fun _ => rfl) (opensAt_cons (opens_int Try.underlying3) rfl (by kernel_rfl) (opensAt_cons (opens_struct (fun x : S45 => (x.f0, x.f1)) (fun x => ⟨x.1, x.2⟩) (fun _ => rfl) (opensAt_cons (opens_int Try.underlying3) rfl (by kernel_rfl) (opensAt_one (opens_int Try.underlying3) (by kernel_rfl))) Try.underlying45 (by kernel_rfl)) rfl (by kernel_rfl) (opensAt_one (opens_float Try.underlying46) (by kernel_rfl)))) Try.underlying48 (by kernel_rfl)) Try.underlying25 (by kernel_rfl)) (by kernel_rfl))))))))) Try.underlying27 (by kernel_rfl)) h2 hsz (j := 2) (t := 27) rfl rfl
  obtain ⟨cs2, rfl, _⟩ := okWide_struct Try.underlying27 (hval 2 27 v2 rfl rfl)
  have hK2' : k27.K W x2 cs2.toList := hK2
  obtain ⟨A2_7, c2_7, A2_8, c2_8, hcs2, hc2_7, hr2_7, hc2_8, hr2_8⟩ := k27_open hK2'
  obtain rfl := agg_of hcs2
  have hP := Pure.RoundAlone (x0.f0) (x0.f1) (x0.f2) (x0.f3) (x0.f4) (x0.f5.f0) (x0.f5.f1) (x0.f6) (x0.f7) y1 (x2.f0) (x2.f1) (x2.f2) (x2.f3) (x2.f4) (x2.f5.f0) (x2.f5.f1) (x2.f6) (x2.f7) (hg0.1) (hg0.2.1) (hg0.2.2.1) (hg0.2.2.2.1) (hg0.2.2.2.2.1) (hg0.2.2.2.2.2.1.1) (hg0.2.2.2.2.2.1.2) ⟨hg0.2.2.2.2.2.2.1.1, hg0.2.2.2.2.2.2.1.2.1, fun y_0 hy_0 => ⟨(hg0.2.2.2.2.2.2.1.2.2 y_0 hy_0).1, ⟨(hg0.2.2.2.2.2.2.1.2.2 y_0 hy_0).2.1, (hg0.2.2.2.2.2.2.1.2.2 y_0 hy_0).2.2⟩⟩⟩ ⟨hg0.2.2.2.2.2.2.2.1, hg0.2.2.2.2.2.2.2.2.1, fun y_0 hy_0 => ⟨(hg0.2.2.2.2.2.2.2.2.2 y_0 hy_0).1, ⟨(hg0.2.2.2.2.2.2.2.2.2 y_0 hy_0).2.1.1, (hg0.2.2.2.2.2.2.2.2.2 y_0 hy_0).2.1.2⟩, (hg0.2.2.2.2.2.2.2.2.2 y_0 hy_0).2.2⟩⟩ (hg1) (hg2.1) (hg2.2.1) (hg2.2.2.1) (hg2.2.2.2.1) (hg2.2.2.2.2.1) (hg2.2.2.2.2.2.1.1) (hg2.2.2.2.2.2.1.2) ⟨hg2.2.2.2.2.2.2.1.1, hg2.2.2.2.2.2.2.1.2.1, fun y_0 hy_0 => ⟨(hg2.2.2.2.2.2.2.1.2.2 y_0 hy_0).1, ⟨(hg2.2.2.2.2.2.2.1.2.2 y_0 hy_0).2.1, (hg2.2.2.2.2.2.2.1.2.2 y_0 hy_0).2.2⟩⟩⟩ ⟨hg2.2.2.2.2.2.2.2.1, hg2.2.2.2.2.2.2.2.2.1, fun y_0 hy_0 => ⟨(hg2.2.2.2.2.2.2.2.2.2 y_0 hy_0).1, ⟨(hg2.2.2.2.2.2.2.2.2.2 y_0 hy_0).2.1.1, (hg2.2.2.2.2.2.2.2.2.2 y_0 hy_0).2.1.2⟩, (hg2.2.2.2.2.2.2.2.2.2 y_0 hy_0).2.2⟩⟩
  clear hA0 hval0 hsz0 hsz
  obtain ⟨k, hP⟩ := hP
  refine (ropewaylaw14_RoundAlone.calls k (x0.f0) (x0.f1) (x0.f2) (x0.f3) (x0.f4) (x0.f5.f0) (x0.f5.f1) _ _ (x0.f6) _ _ (x0.f7) y1 (x2.f0) (x2.f1) (x2.f2) (x2.f3) (x2.f4) (x2.f5.f0) (x2.f5.f1) _ _ (x2.f6) _ _ (x2.f7) true W hr0_7 hc0_7 hr0_8 hc0_8 hr2_7 hc2_7 hr2_8 hc2_8 ⟨rfl⟩ hP).mono fun e W' he => ?_
  obtain ⟨rfl, bel0⟩ := he
  have bel : Below W.heap.size W W' := bel0
  exact ⟨_, rfl, _, _, _, [], _, [], hW', trodAll_mk1 (shut_bool Try.underlying4 _), (trodAll_cons_mk (Below.trod laidOut (by kernel_rfl) (of_decide_eq_true (by kernel_rfl)) k0 bel lt0) (trodAll_cons_mk (Below.trod laidOut (by kernel_rfl) (of_decide_eq_true (by kernel_rfl)) k1 bel lt1) (trodAll_cons_mk (Below.trod laidOut (by kernel_rfl) (of_decide_eq_true (by kernel_rfl)) k2 bel lt2) trodAll_mk0))), rfl, bel.frame _, fun h => by cases h⟩
theorem over : Rows.roundAloneRow.holds Try.pinned (OpenSpec.ofChange Rows.roundAloneSpec) :=
  OpenClaim.holds_of_wide 6 Try.f6 rfl rfl rfl rfl rfl rfl rfl ⟨rfl, rfl, rfl, rfl, rfl⟩ rfl rfl rfl rfl rfl (by kernel_rfl) Try.func6 (by kernel_rfl)
    (of_decide_eq_true (by kernel_rfl)) (by unfold Func.isWrapper; first | (rw [if_pos (by decide +kernel)]; kernel_rfl) | (rw [if_neg (by decide +kernel)]; exact ⟨rfl, rfl⟩))
    (fun os started H enc _ => lifted os started H enc)
theorem proved : Rows.RoundAloneSaid := over
#print axioms proved
end Go.Proofs.Ytmgiaappokkjfaa.roundAlone
namespace Go.Proofs.Ytmgiaappokkjfaa
/-- The row, under a short name, for the claim. -/
theorem roundAlone_holds : Rows.RoundAloneSaid := roundAlone.proved
end Go.Proofs.Ytmgiaappokkjfaa
