/- The law NumChain holds: its row, out of the pure statement (the session's) and the printed walk. For every input; no condition. -/
import Derived.Test.YtnbjlcjlcjefjaaRows
import Derived.Test.YtnbjlcjlcjefjaaPNumChainx2
import Derived.Test.YtnbjlcjlcjefjaaPureNumChain
import Derived.Test.YtnbjlcjlcjefjaaXOpen
import Derived.WalkKit
import Derived.ProofKit
import Derived.OpenShut
import Derived.ShutString
import Derived.ChangeOld
import Derived.Below
import Derived.SizedLaws
import Derived.Laws.Cover2
namespace Go.Proofs.Ytnbjlcjlcjefjaa.numChain
open Go.ChangeShapes Go.WideShapes Go.ChangeAt Go.RowKit Go.Proofs.YtnbjlcjlcjefjaaX Go.Proofs.YtnbjlcjlcjefjaaW.PrintWords Go.Proofs.Ytnbjlcjlcjefjaa.PNumChain
open Go.ChangeMaps (open_string shut_string)
set_option linter.unusedVariables false
theorem own : ownKnob Try.prog.godebug = none := by kernel_rfl
theorem laidOut : laidOutB Try.prog = true := by kernel_rfl
set_option maxRecDepth 100000 in
set_option maxHeartbeats 1000000 in
theorem lifted (os : Os) (started : os.Started) (H : Type) (enc : TypeId × Value → H) :
    ReturnsInHanded {} Try.checked os 4 .any (Rows.numChainSpec.pre6 enc Try.prog Try.f4 Rows.numChainRow.domain false) (Rows.numChainSpec.post enc Try.prog Try.f4 false true false false) := by
  refine returnsInHanded_of_change_sized (C := Try.checked) own started (by kernel_rfl) Try.func4
    (ChangeSpec.witness6 (enc := enc) (C := Try.checked) false ⟨#[], #[.int .u64 0, .int .u64 0, .int .u64 0], []⟩ 8 (by kernel_rfl) (by kernel_rfl) (by kernel_rfl) (by kernel_rfl)) ?_
  intro W base args ds gs before hval0 hW hcnd hsz0 _
  have hsz : (DataW.weightsEach Try.prog (Try.f4.params.toList ++ Rows.numChainSpec.plain.varTypes Try.prog) (ds ++ gs)).all (· ≤ reachBytes) = true := hsz0
  have hval : ∀ (j : Nat) t v, Try.f4.params[j]? = some t → args[j]? = some v → Value.okWide Try.prog W .any base t v := hval0
  have hW' := hW
  obtain ⟨p, q, hA0, hV, rfl, hfz, hnd⟩ := hW
  have hA : DataW.TrodAll enc Try.prog W 0 (fun _ => true) true Try.f4.params.toList args.toList ds p := hA0
  rw [Try.params4] at hA hval hsz
  obtain ⟨v0, vs0, d0, ds0, p0, q0, hargs, rfl, rfl, h0, r0⟩ := trodAll_cons hA
  obtain ⟨v1, vs1, d1, ds1, p1, q1, rfl, rfl, rfl, h1, r1⟩ := trodAll_cons r0
  obtain ⟨v2, vs2, d2, ds2, p2, q2, rfl, rfl, rfl, h2, r2⟩ := trodAll_cons r1
  obtain ⟨rfl, rfl, rfl⟩ := trodAll_nil r2
  obtain rfl : args = #[v0, v1, v2] := by cases args; simp_all
  obtain ⟨rfl, rfl⟩ := trodVars_none hV
  have k0 := h0
  have lt0 : ∀ x ∈ p0, x.block < W.heap.size := by obtain ⟨m, hm⟩ := k0; exact DataW.trod_lt m _ _ _ hm
  obtain ⟨x0, hK0, hg0⟩ := opens_param (opens_int Try.underlying22) h0 hsz (j := 0) (t := 22) rfl rfl
  obtain ⟨y0, rfl⟩ := px_okWide_int Try.underlying22 (hval 0 22 v0 rfl rfl)
  obtain rfl : y0 = x0 := by simpa [Value.cells, Kd.int, Kd.scalar] using hK0
  have k1 := h1
  have lt1 : ∀ x ∈ p1, x.block < W.heap.size := by obtain ⟨m, hm⟩ := k1; exact DataW.trod_lt m _ _ _ hm
  obtain ⟨x1, hK1, hg1⟩ := opens_param (opens_int Try.underlying22) h1 hsz (j := 1) (t := 22) rfl rfl
  obtain ⟨y1, rfl⟩ := px_okWide_int Try.underlying22 (hval 1 22 v1 rfl rfl)
  obtain rfl : y1 = x1 := by simpa [Value.cells, Kd.int, Kd.scalar] using hK1
  have k2 := h2
  have lt2 : ∀ x ∈ p2, x.block < W.heap.size := by obtain ⟨m, hm⟩ := k2; exact DataW.trod_lt m _ _ _ hm
  obtain ⟨x2, hK2, hg2⟩ := opens_param (opens_int Try.underlying22) h2 hsz (j := 2) (t := 22) rfl rfl
  obtain ⟨y2, rfl⟩ := px_okWide_int Try.underlying22 (hval 2 22 v2 rfl rfl)
  obtain rfl : y2 = x2 := by simpa [Value.cells, Kd.int, Kd.scalar] using hK2
  have hP := Pure.NumChain y0 y1 y2 (hg0) (hg1) (hg2)
  clear hA0 hval0 hsz0 hsz
  obtain ⟨k, hP⟩ := hP
  refine (ropewaylaw01_NumChain.calls k y0 y1 y2 true W  hP).mono fun e W' he => ?_
  obtain ⟨rfl, bel0⟩ := he
  have bel : Below W.heap.size W W' := bel0.below
  exact ⟨_, rfl, _, _, _, [], _, [], hW', trodAll_mk1 (shut_bool Try.underlying4 _), (trodAll_cons_mk (Below.trod laidOut (by kernel_rfl) (of_decide_eq_true (by kernel_rfl)) k0 bel lt0) (trodAll_cons_mk (Below.trod laidOut (by kernel_rfl) (of_decide_eq_true (by kernel_rfl)) k1 bel lt1) (trodAll_cons_mk (Below.trod laidOut (by kernel_rfl) (of_decide_eq_true (by kernel_rfl)) k2 bel lt2) trodAll_mk0))), rfl, bel.frame _, fun h => by cases h⟩
theorem over : Rows.numChainRow.holds Try.pinned (OpenSpec.ofChange Rows.numChainSpec) :=
  OpenClaim.holds_of_wide 4 Try.f4 rfl rfl rfl rfl rfl rfl rfl ⟨rfl, rfl, rfl, rfl, rfl⟩ rfl rfl rfl rfl rfl (by kernel_rfl) Try.func4 (by kernel_rfl)
    (of_decide_eq_true (by kernel_rfl)) (by unfold Func.isWrapper; first | (rw [if_pos (by decide +kernel)]; kernel_rfl) | (rw [if_neg (by decide +kernel)]; exact ⟨rfl, rfl⟩))
    (fun os started H enc _ => lifted os started H enc)
theorem proved : Rows.NumChainSaid := over
#print axioms proved
end Go.Proofs.Ytnbjlcjlcjefjaa.numChain
namespace Go.Proofs.Ytnbjlcjlcjefjaa
/-- The row, under a short name, for the claim. -/
theorem numChain_holds : Rows.NumChainSaid := numChain.proved
end Go.Proofs.Ytnbjlcjlcjefjaa
