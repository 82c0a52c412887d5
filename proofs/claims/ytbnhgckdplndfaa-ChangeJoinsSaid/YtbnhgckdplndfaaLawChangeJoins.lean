/- The law ChangeJoins holds: its row, out of the pure statement (the session's) and the printed walk. For every input; no condition. -/
import Derived.Test.YtbnhgckdplndfaaRows
import Derived.Test.YtbnhgckdplndfaaPChangeJoinsx5
import Derived.Test.YtbnhgckdplndfaaPureChangeJoins
import Derived.Test.YtbnhgckdplndfaaXOpen
import Derived.WalkKit
import Derived.ProofKit
import Derived.OpenShut
import Derived.ShutString
import Derived.ChangeOld
import Derived.Below
import Derived.SizedLaws
import Derived.Laws.Cover2
namespace Go.Proofs.Ytbnhgckdplndfaa.changeJoins
open Go.ChangeShapes Go.WideShapes Go.ChangeAt Go.RowKit Go.Proofs.YtbnhgckdplndfaaX Go.Proofs.YtbnhgckdplndfaaW.PrintWords Go.Proofs.Ytbnhgckdplndfaa.PChangeJoins
open Go.ChangeMaps (open_string shut_string)
set_option linter.unusedVariables false
theorem own : ownKnob Try.prog.godebug = none := by kernel_rfl
theorem laidOut : laidOutB Try.prog = true := by kernel_rfl
set_option maxRecDepth 100000 in
set_option maxHeartbeats 1000000 in
theorem lifted (os : Os) (started : os.Started) (H : Type) (enc : TypeId × Value → H) :
    ReturnsInHanded {} Try.checked os 13 .any (Rows.changeJoinsSpec.pre6 enc Try.prog Try.f13 Rows.changeJoinsRow.domain false) (Rows.changeJoinsSpec.post enc Try.prog Try.f13 false true false false) := by
  refine returnsInHanded_of_change_sized (C := Try.checked) own started (by kernel_rfl) Try.func13
    (ChangeSpec.witness6 (enc := enc) (C := Try.checked) false ⟨#[], #[.agg #[(.int .i64 0), (.int .i64 0)], .agg #[(.int .i64 0), (.int .i64 0)], .agg #[(.int .i64 0), (.int .i64 0)]], []⟩ 8 (by kernel_rfl) (by kernel_rfl) (by kernel_rfl) (by kernel_rfl)) ?_
  intro W base args ds gs before hval0 hW hcnd hsz0 _
  have hsz : (DataW.weightsEach Try.prog (Try.f13.params.toList ++ Rows.changeJoinsSpec.plain.varTypes Try.prog) (ds ++ gs)).all (· ≤ reachBytes) = true := hsz0
  have hval : ∀ (j : Nat) t v, Try.f13.params[j]? = some t → args[j]? = some v → Value.okWide Try.prog W .any base t v := hval0
  have hW' := hW
  obtain ⟨p, q, hA0, hV, rfl, hfz, hnd⟩ := hW
  have hA : DataW.TrodAll enc Try.prog W 0 (fun _ => true) true Try.f13.params.toList args.toList ds p := hA0
  rw [Try.params13] at hA hval hsz
  obtain ⟨v0, vs0, d0, ds0, p0, q0, hargs, rfl, rfl, h0, r0⟩ := trodAll_cons hA
  obtain ⟨v1, vs1, d1, ds1, p1, q1, rfl, rfl, rfl, h1, r1⟩ := trodAll_cons r0
  obtain ⟨v2, vs2, d2, ds2, p2, q2, rfl, rfl, rfl, h2, r2⟩ := trodAll_cons r1
  obtain ⟨rfl, rfl, rfl⟩ := trodAll_nil r2
  obtain rfl : args = #[v0, v1, v2] := by cases args; simp_all
  obtain ⟨rfl, rfl⟩ := trodVars_none hV
  have k0 := h0
  have lt0 : ∀ x ∈ p0, x.block < W.heap.size := by obtain ⟨m, hm⟩ := k0; exact DataW.trod_lt m _ _ _ hm
  obtain ⟨x0, hK0, hg0⟩ := opens_param (opens_struct (fun x : S38 => (x.f0, x.f1)) (fun x => ⟨x.1, x.2⟩) (fun _ => rfl) (opensAt_cons (opens_int Try.underlying3) rfl (by kernel_rfl) (opensAt_one (opens_int Try.underlying3) (by kernel_rfl))) Try.underlying38 (by kernel_rfl)) h0 hsz (j := 0) (t := 38) rfl rfl
  obtain ⟨cs0, rfl, _⟩ := okWide_struct Try.underlying38 (hval 0 38 v0 rfl rfl)
  have hK0' : k38.K W x0 cs0.toList := hK0
  have hcs0 := k38_open hK0'
  obtain rfl := agg_of hcs0
  have k1 := h1
  have lt1 : ∀ x ∈ p1, x.block < W.heap.size := by obtain ⟨m, hm⟩ := k1; exact DataW.trod_lt m _ _ _ hm
  obtain ⟨x1, hK1, hg1⟩ := opens_param (opens_struct (fun x : S38 => (x.f0, x.f1)) (fun x => ⟨x.1, x.2⟩) (fun _ => rfl) (opensAt_cons (opens_int Try.underlying3) rfl (by kernel_rfl) (opensAt_one (opens_int Try.underlying3) (by kernel_rfl))) Try.underlying38 (by kernel_rfl)) h1 hsz (j := 1) (t := 38) rfl rfl
  obtain ⟨cs1, rfl, _⟩ := okWide_struct Try.underlying38 (hval 1 38 v1 rfl rfl)
  have hK1' : k38.K W x1 cs1.toList := hK1
  have hcs1 := k38_open hK1'
  obtain rfl := agg_of hcs1
  have k2 := h2
  have lt2 : ∀ x ∈ p2, x.block < W.heap.size := by obtain ⟨m, hm⟩ := k2; exact DataW.trod_lt m _ _ _ hm
  obtain ⟨x2, hK2, hg2⟩ := opens_param (opens_struct (fun x : S38 => (x.f0, x.f1)) (fun x => ⟨x.1, x.2⟩) (fun _ => rfl) (opensAt_cons (opens_int Try.underlying3) rfl (by kernel_rfl) (opensAt_one (opens_int Try.underlying3) (by kernel_rfl))) Try.underlying38 (by kernel_rfl)) h2 hsz (j := 2) (t := 38) rfl rfl
  obtain ⟨cs2, rfl, _⟩ := okWide_struct Try.underlying38 (hval 2 38 v2 rfl rfl)
  have hK2' : k38.K W x2 cs2.toList := hK2
  have hcs2 := k38_open hK2'
  obtain rfl := agg_of hcs2
  have hP := Pure.ChangeJoins (x0.f0) (x0.f1) (x1.f0) (x1.f1) (x2.f0) (x2.f1) (hg0.1) (hg0.2) (hg1.1) (hg1.2) (hg2.1) (hg2.2)
  clear hA0 hval0 hsz0 hsz
  obtain ⟨k, hP⟩ := hP
  refine (ropewaylaw04_ChangeJoins.calls k (x0.f0) (x0.f1) (x1.f0) (x1.f1) (x2.f0) (x2.f1) true W  ⟨rfl⟩ hP).mono fun e W' he => ?_
  obtain ⟨rfl, bel0⟩ := he
  have bel : Below W.heap.size W W' := bel0
  exact ⟨_, rfl, _, _, _, [], _, [], hW', trodAll_mk1 (shut_bool Try.underlying4 _), (trodAll_cons_mk (Below.trod laidOut (by kernel_rfl) (of_decide_eq_true (by kernel_rfl)) k0 bel lt0) (trodAll_cons_mk (Below.trod laidOut (by kernel_rfl) (of_decide_eq_true (by kernel_rfl)) k1 bel lt1) (trodAll_cons_mk (Below.trod laidOut (by kernel_rfl) (of_decide_eq_true (by kernel_rfl)) k2 bel lt2) trodAll_mk0))), rfl, bel.frame _, fun h => by cases h⟩
theorem over : Rows.changeJoinsRow.holds Try.pinned (OpenSpec.ofChange Rows.changeJoinsSpec) :=
  OpenClaim.holds_of_wide 13 Try.f13 rfl rfl rfl rfl rfl rfl rfl ⟨rfl, rfl, rfl, rfl, rfl⟩ rfl rfl rfl rfl rfl (by kernel_rfl) Try.func13 (by kernel_rfl)
    (of_decide_eq_true (by kernel_rfl)) (by unfold Func.isWrapper; first | (rw [if_pos (by decide +kernel)]; kernel_rfl) | (rw [if_neg (by decide +kernel)]; exact ⟨rfl, rfl⟩))
    (fun os started H enc _ => lifted os started H enc)
theorem proved : Rows.ChangeJoinsSaid := over
#print axioms proved
end Go.Proofs.Ytbnhgckdplndfaa.changeJoins
namespace Go.Proofs.Ytbnhgckdplndfaa
/-- The row, under a short name, for the claim. -/
theorem changeJoins_holds : Rows.ChangeJoinsSaid := changeJoins.proved
end Go.Proofs.Ytbnhgckdplndfaa
