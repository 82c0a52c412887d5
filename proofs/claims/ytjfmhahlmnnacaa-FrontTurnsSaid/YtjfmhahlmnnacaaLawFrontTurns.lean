/- The law FrontTurns holds: its row, out of the pure statement (the session's) and the printed walk. For every input; no condition. -/
import Derived.Test.YtjfmhahlmnnacaaRows
import Derived.Test.YtjfmhahlmnnacaaPFrontTurnsx7
import Derived.Test.YtjfmhahlmnnacaaPureFrontTurns
import Derived.Test.YtjfmhahlmnnacaaSFrontTurnsXOpen
import Derived.WalkKit
import Derived.ProofKit
import Derived.OpenShut
import Derived.ShutString
import Derived.ChangeOld
import Derived.Below
import Derived.SizedLaws
import Derived.Laws.Cover2
namespace Go.Proofs.Ytjfmhahlmnnacaa.frontTurns
open Go.ChangeShapes Go.WideShapes Go.ChangeAt Go.RowKit Go.Proofs.YtjfmhahlmnnacaaX Go.Proofs.YtjfmhahlmnnacaaW.PrintWords Go.Proofs.Ytjfmhahlmnnacaa.PFrontTurns
open Go.ChangeMaps (open_string shut_string)
set_option linter.unusedVariables false
theorem own : ownKnob Try.prog.godebug = none := by kernel_rfl
theorem laidOut : laidOutB Try.prog = true := by kernel_rfl
set_option maxRecDepth 100000 in
set_option maxHeartbeats 1000000 in
theorem lifted (os : Os) (started : os.Started) (H : Type) (enc : TypeId × Value → H) :
    ReturnsInHanded {} Try.checked os 5 .any (Rows.frontTurnsSpec.pre6 enc Try.prog Try.f5 Rows.frontTurnsRow.domain false) (Rows.frontTurnsSpec.post enc Try.prog Try.f5 false true false false) := by
  refine returnsInHanded_of_change_sized (C := Try.checked) own started (by kernel_rfl) Try.func5
    (ChangeSpec.witness6 (enc := enc) (C := Try.checked) false ⟨#[], #[.agg #[(.int .i64 0), (.int .i64 0)], .agg #[(.int .i64 0), (.int .i64 0)], .agg #[(.slice none 0 0), (.slice none 0 0)]], []⟩ 8 (by kernel_rfl) (by kernel_rfl) (by kernel_rfl) (by kernel_rfl)) ?_
  intro W base args ds gs before hval0 hW hcnd hsz0 _
  have hsz : (DataW.weightsEach Try.prog (Try.f5.params.toList ++ Rows.frontTurnsSpec.plain.varTypes Try.prog) (ds ++ gs)).all (· ≤ reachBytes) = true := hsz0
  have hval : ∀ (j : Nat) t v, Try.f5.params[j]? = some t → args[j]? = some v → Value.okWide Try.prog W .any base t v := hval0
  have hW' := hW
  obtain ⟨p, q, hA0, hV, rfl, hfz, hnd⟩ := hW
  have hA : DataW.TrodAll enc Try.prog W 0 (fun _ => true) true Try.f5.params.toList args.toList ds p := hA0
  rw [Try.params5] at hA hval hsz
  obtain ⟨v0, vs0, d0, ds0, p0, q0, hargs, rfl, rfl, h0, r0⟩ := trodAll_cons hA
  obtain ⟨v1, vs1, d1, ds1, p1, q1, rfl, rfl, rfl, h1, r1⟩ := trodAll_cons r0
  obtain ⟨v2, vs2, d2, ds2, p2, q2, rfl, rfl, rfl, h2, r2⟩ := trodAll_cons r1
  obtain ⟨rfl, rfl, rfl⟩ := trodAll_nil r2
  obtain rfl : args = #[v0, v1, v2] := by cases args; simp_all
  obtain ⟨rfl, rfl⟩ := trodVars_none hV
  have k0 := h0
  have lt0 : ∀ x ∈ p0, x.block < W.heap.size := by obtain ⟨m, hm⟩ := k0; exact DataW.trod_lt m _ _ _ hm
  obtain ⟨x0, hK0, hg0⟩ := opens_param (opens_struct (fun x : S24 => (x.f0, x.f1)) (fun x => ⟨x.1, x.2⟩) (fun _ => rfl) (opensAt_cons (opens_int Try.underlying3) rfl (by kernel_rfl) (opensAt_one (opens_int Try.underlying3) (by kernel_rfl))) Try.underlying24 (by kernel_rfl)) h0 hsz (j := 0) (t := 24) rfl rfl
  obtain ⟨cs0, rfl, _⟩ := okWide_struct Try.underlying24 (hval 0 24 v0 rfl rfl)
  have hK0' : k24.K W x0 cs0.toList := hK0
  have hcs0 := k24_open hK0'
  obtain rfl := agg_of hcs0
  have k1 := h1
  have lt1 : ∀ x ∈ p1, x.block < W.heap.size := by obtain ⟨m, hm⟩ := k1; exact DataW.trod_lt m _ _ _ hm
  obtain ⟨x1, hK1, hg1⟩ := opens_param (opens_struct (fun x : S24 => (x.f0, x.f1)) (fun x => ⟨x.1, x.2⟩) (fun _ => rfl) (opensAt_cons (opens_int Try.underlying3) rfl (by kernel_rfl) (opensAt_one (opens_int Try.underlying3) (by kernel_rfl))) Try.underlying24 (by kernel_rfl)) h1 hsz (j := 1) (t := 24) rfl rfl
  obtain ⟨cs1, rfl, _⟩ := okWide_struct Try.underlying24 (hval 1 24 v1 rfl rfl)
  have hK1' : k24.K W x1 cs1.toList := hK1
  have hcs1 := k24_open hK1'
  obtain rfl := agg_of hcs1
  have k2 := h2
  have lt2 : ∀ x ∈ p2, x.block < W.heap.size := by obtain ⟨m, hm⟩ := k2; exact DataW.trod_lt m _ _ _ hm
  obtain ⟨x2, hK2, hg2⟩ := opens_param (opens_array (fs := [⟨"", 22, 0, false, "", "", 0⟩, ⟨"", 22, 1, false, "", "", 0⟩]) (fun x : S44 => (x.f0, x.f1)) (fun x => ⟨x.1, x.2⟩) (fun _ => rfl) (opensAt_cons (opens_slice (opens_struct (fun x : S24 => (x.f0, x.f1)) (fun x => ⟨x.1, x.2⟩) (fun _ => rfl) (opensAt_cons (opens_int Try.underlying3) rfl (by kernel_rfl) (opensAt_one (opens_int Try.underlying3) (by kernel_rfl))) Try.underlying24 (by kernel_rfl)) Try.underlying22 (by kernel_rfl)) rfl (by kernel_rfl) (opensAt_one (opens_slice (opens_struct (fun x : S24 => (x.f0, x.f1)) (fun x => ⟨x.1, x.2⟩) (fun _ => rfl) (opensAt_cons (opens_int Try.underlying3) rfl (by kernel_rfl) (opensAt_one (opens_int Try.underlying3) (by kernel_rfl))) Try.underlying24 (by kernel_rfl)) Try.underlying22 (by kernel_rfl)) (by kernel_rfl))) Try.underlying44 rfl (by kernel_rfl) (by kernel_rfl)) h2 hsz (j := 2) (t := 44) rfl rfl
  obtain ⟨cs2, rfl, _⟩ := px_okWide_array Try.underlying44 (hval 2 44 v2 rfl rfl)
  have hK2' : k44.K W x2 cs2.toList := hK2
  obtain ⟨A2_0, c2_0, A2_1, c2_1, hcs2, hc2_0, hr2_0, hc2_1, hr2_1⟩ := k44_open hK2'
  obtain rfl := agg_of hcs2
  have hP := Pure.FrontTurns (x0.f0) (x0.f1) (x1.f0) (x1.f1) (x2.f0) (x2.f1) (hg0.1) (hg0.2) (hg1.1) (hg1.2) ⟨hg2.1.1, hg2.1.2.1, fun y_0 hy_0 => ⟨(hg2.1.2.2 y_0 hy_0).1, (hg2.1.2.2 y_0 hy_0).2⟩⟩ ⟨hg2.2.1, hg2.2.2.1, fun y_0 hy_0 => ⟨(hg2.2.2.2 y_0 hy_0).1, (hg2.2.2.2 y_0 hy_0).2⟩⟩
  clear hA0 hval0 hsz0 hsz
  obtain ⟨k, hP⟩ := hP
  refine (ropewaylaw16_FrontTurns.calls k (x0.f0) (x0.f1) (x1.f0) (x1.f1) _ _ (x2.f0) _ _ (x2.f1) true W hr2_0 hc2_0 hr2_1 hc2_1 ⟨rfl⟩ hP).mono fun e W' he => ?_
  obtain ⟨rfl, bel0⟩ := he
  have bel : Below W.heap.size W W' := bel0
  exact ⟨_, rfl, _, _, _, [], _, [], hW', trodAll_mk1 (shut_bool Try.underlying4 _), (trodAll_cons_mk (Below.trod laidOut (by kernel_rfl) (of_decide_eq_true (by kernel_rfl)) k0 bel lt0) (trodAll_cons_mk (Below.trod laidOut (by kernel_rfl) (of_decide_eq_true (by kernel_rfl)) k1 bel lt1) (trodAll_cons_mk (Below.trod laidOut (by kernel_rfl) (of_decide_eq_true (by kernel_rfl)) k2 bel lt2) trodAll_mk0))), rfl, bel.frame _, fun h => by cases h⟩
theorem over : Rows.frontTurnsRow.holds Try.pinned (OpenSpec.ofChange Rows.frontTurnsSpec) :=
  OpenClaim.holds_of_wide 5 Try.f5 rfl rfl rfl rfl rfl rfl rfl ⟨rfl, rfl, rfl, rfl, rfl⟩ rfl rfl rfl rfl rfl (by kernel_rfl) Try.func5 (by kernel_rfl)
    (of_decide_eq_true (by kernel_rfl)) (by unfold Func.isWrapper; first | (rw [if_pos (by decide +kernel)]; kernel_rfl) | (rw [if_neg (by decide +kernel)]; exact ⟨rfl, rfl⟩))
    (fun os started H enc _ => lifted os started H enc)
theorem proved : Rows.FrontTurnsSaid := over
#print axioms proved
end Go.Proofs.Ytjfmhahlmnnacaa.frontTurns
namespace Go.Proofs.Ytjfmhahlmnnacaa
/-- The row, under a short name, for the claim. -/
theorem frontTurns_holds : Rows.FrontTurnsSaid := frontTurns.proved
end Go.Proofs.Ytjfmhahlmnnacaa
