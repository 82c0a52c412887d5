/-
  No cell of these rows narrows 'for every input' (looked for: loops, veiled, ifaces, maps, wideKeys, modest, calm, conditions, laid).
  DERIVED. THE GIVEN ROWS OF THIS SEAT. 4 by the template 'for every input the law returns true; each argument reads behind the call as it read before'; 0 by the template 'total and deterministic' (their statements: YtjfmhahlmnnacaaTotals.lean).
  GIVEN WITH THE SEED: the statements are not yours to turn. If you find one false, say at which input.
  Laid BY PROGRAM, IN A SANDBOX (cutbox-rows.mjs): the forced cells as the released guide's own fill.sh prints them over the translation 894870362f19dc7a… (all of the seat's roots in one cut). By AI agents, Wed Nov 11 2026. No macro, syntax, notation, axiom, sorry.
-/
import Derived.Test.YtjfmhahlmnnacaaChecked
import GoSem.Claim
import GoSem.ClaimJoined
import GoSem.ClaimMapViews
import Derived.JoinedTies
import Derived.KernelRfl
namespace Go.Proofs.Ytjfmhahlmnnacaa
/- THE CELL 'sum', in the pinned program and in every row, IS THE sha256 OF THE DUMP (.gsa) THAT YtjfmhahlmnnacaaProg.lean LOADS. Nothing in Lean hashes anything: it is a label: what it is worth is what the hold of that sum in a sandbox is worth. -/
noncomputable def Try.pinned : Pinned := { name := "ytjfmhahlmnnacaa", sum := "894870362f19dc7a138cea01600b4d6c309ef45769a4cca6af6713e5da76fe91", checked := Try.checked }
namespace Rows
def none {H : Type} : Left H := { results := [], args := [] }

/-- 'ropewaylaw16.FrontNames': WHATEVER THE INPUT: true; the input reads as it did. -/
def frontNamesSpec : ChangeSpec := { name := "frontNames", fn := fun _ => fun
  | [] => { results := [.lit (.bool true)], args := [] }
  | _ => none }
def frontNamesRow : OpenClaim := { program := "ytjfmhahlmnnacaa", sum := "894870362f19dc7a138cea01600b4d6c309ef45769a4cca6af6713e5da76fe91", func := "ropeway/ropewaylaw16.FrontNames", spec := "frontNames", inPlace := ["slices.overlaps[ropeway/api.View]"], apart := false }
def FrontNamesSaid : Prop := frontNamesRow.holds Try.pinned (OpenSpec.ofChange frontNamesSpec)

/-- ITS FALSE NEIGHBOUR: 'it returns false'. Refute it at one input. -/
def frontNamesWrong : ChangeSpec := { name := "frontNames", fn := fun _ => fun
  | [] => { results := [.lit (.bool false)], args := [] }
  | _ => none }
def FrontNamesWrongFalsely : Prop := frontNamesRow.holds Try.pinned (OpenSpec.ofChange frontNamesWrong)

/-- 'ropewaylaw16.FrontSteps': WHATEVER THE INPUT: true; the input reads as it did. -/
def frontStepsSpec : ChangeSpec := { name := "frontSteps", fn := fun _ => fun
  | [d1, d2, d3] => { results := [.lit (.bool true)], args := [d1, d2, d3] }
  | _ => none }
def frontStepsRow : OpenClaim := { program := "ytjfmhahlmnnacaa", sum := "894870362f19dc7a138cea01600b4d6c309ef45769a4cca6af6713e5da76fe91", func := "ropeway/ropewaylaw16.FrontSteps", spec := "frontSteps", inPlace := ["slices.overlaps[ropeway/api.View]"], apart := false }
def FrontStepsSaid : Prop := frontStepsRow.holds Try.pinned (OpenSpec.ofChange frontStepsSpec)

/-- ITS FALSE NEIGHBOUR: 'it returns false'. Refute it at one input. -/
def frontStepsWrong : ChangeSpec := { name := "frontSteps", fn := fun _ => fun
  | [d1, d2, d3] => { results := [.lit (.bool false)], args := [d1, d2, d3] }
  | _ => none }
def FrontStepsWrongFalsely : Prop := frontStepsRow.holds Try.pinned (OpenSpec.ofChange frontStepsWrong)

/-- 'ropewaylaw16.FrontTurns': WHATEVER THE INPUT: true; the input reads as it did. -/
def frontTurnsSpec : ChangeSpec := { name := "frontTurns", fn := fun _ => fun
  | [d1, d2, d3] => { results := [.lit (.bool true)], args := [d1, d2, d3] }
  | _ => none }
def frontTurnsRow : OpenClaim := { program := "ytjfmhahlmnnacaa", sum := "894870362f19dc7a138cea01600b4d6c309ef45769a4cca6af6713e5da76fe91", func := "ropeway/ropewaylaw16.FrontTurns", spec := "frontTurns", inPlace := ["slices.overlaps[ropeway/api.View]"], apart := false }
def FrontTurnsSaid : Prop := frontTurnsRow.holds Try.pinned (OpenSpec.ofChange frontTurnsSpec)

/-- ITS FALSE NEIGHBOUR: 'it returns false'. Refute it at one input. -/
def frontTurnsWrong : ChangeSpec := { name := "frontTurns", fn := fun _ => fun
  | [d1, d2, d3] => { results := [.lit (.bool false)], args := [d1, d2, d3] }
  | _ => none }
def FrontTurnsWrongFalsely : Prop := frontTurnsRow.holds Try.pinned (OpenSpec.ofChange frontTurnsWrong)

/-- 'ropewaylaw16.FrontAims': WHATEVER THE INPUT: true; the input reads as it did. -/
def frontAimsSpec : ChangeSpec := { name := "frontAims", fn := fun _ => fun
  | [d1, d2, d3] => { results := [.lit (.bool true)], args := [d1, d2, d3] }
  | _ => none }
def frontAimsRow : OpenClaim := { program := "ytjfmhahlmnnacaa", sum := "894870362f19dc7a138cea01600b4d6c309ef45769a4cca6af6713e5da76fe91", func := "ropeway/ropewaylaw16.FrontAims", spec := "frontAims", inPlace := ["slices.overlaps[ropeway/api.View]"], apart := false }
def FrontAimsSaid : Prop := frontAimsRow.holds Try.pinned (OpenSpec.ofChange frontAimsSpec)

/-- ITS FALSE NEIGHBOUR: 'it returns false'. Refute it at one input. -/
def frontAimsWrong : ChangeSpec := { name := "frontAims", fn := fun _ => fun
  | [d1, d2, d3] => { results := [.lit (.bool false)], args := [d1, d2, d3] }
  | _ => none }
def FrontAimsWrongFalsely : Prop := frontAimsRow.holds Try.pinned (OpenSpec.ofChange frontAimsWrong)

/- THE SECOND FORM. 'bulk': how many values and letters a reading holds, each counted each time it is reached (what is shared counts as often as it is met; a slice's spare places count too). A statement '..UptoSaid' is the law's where the arguments, and the package variables that the reading takes, are together of bulk at most 1048576: NARROWER than '..Said'. Prove '..Said' where nothing that the law and all that it calls make is longer than what came in: it says more and counts as full. Else prove '..UptoSaid'. A law counts once. -/
mutual
def uptoBulk {H : Type} : DataW H → Nat
  | .lit (.string bytes) => bytes.length + 1
  | .lit _ => 1
  | .nil => 1
  | .ptr d => uptoBulk d + 1
  | .slice elems spare => uptoBulkAll elems + uptoBulkAll spare + 1
  | .agg parts => uptoBulkAll parts + 1
  | .iface _ d => uptoBulk d + 1
  | .map entries => uptoBulkEntries entries + 1
  | .held _ => 1
def uptoBulkAll {H : Type} : List (DataW H) → Nat
  | [] => 0
  | d :: r => uptoBulk d + uptoBulkAll r
def uptoBulkEntries {H : Type} : List (Lit × DataW H) → Nat
  | [] => 0
  | x :: r => uptoBulkEntry x + uptoBulkEntries r
def uptoBulkEntry {H : Type} : Lit × DataW H → Nat
  | (.string bytes, d) => bytes.length + uptoBulk d + 1
  | (_, d) => uptoBulk d + 1
 end
def uptoSmall : (H : Type) → List (DataW H) → Bool := fun _ ds => decide (uptoBulkAll ds ≤ 1048576)
def OpenSpec.upto (s : _root_.Go.ChangeSpec) : _root_.Go.OpenSpec := { _root_.Go.OpenSpec.ofChange s with cond := some uptoSmall }

/-- 'ropewaylaw16.FrontNames', WHERE WHAT IT READS IS OF BULK AT MOST 1048576: true; the input reads as it did. -/
def frontNamesUptoRow : OpenClaim := { program := "ytjfmhahlmnnacaa", sum := "894870362f19dc7a138cea01600b4d6c309ef45769a4cca6af6713e5da76fe91", func := "ropeway/ropewaylaw16.FrontNames", spec := "frontNames", inPlace := ["slices.overlaps[ropeway/api.View]"], apart := false, narrowed := true }
def FrontNamesUptoSaid : Prop := frontNamesUptoRow.holds Try.pinned (OpenSpec.upto frontNamesSpec)

/-- 'ropewaylaw16.FrontSteps', WHERE WHAT IT READS IS OF BULK AT MOST 1048576: true; the input reads as it did. -/
def frontStepsUptoRow : OpenClaim := { program := "ytjfmhahlmnnacaa", sum := "894870362f19dc7a138cea01600b4d6c309ef45769a4cca6af6713e5da76fe91", func := "ropeway/ropewaylaw16.FrontSteps", spec := "frontSteps", inPlace := ["slices.overlaps[ropeway/api.View]"], apart := false, narrowed := true }
def FrontStepsUptoSaid : Prop := frontStepsUptoRow.holds Try.pinned (OpenSpec.upto frontStepsSpec)

/-- 'ropewaylaw16.FrontTurns', WHERE WHAT IT READS IS OF BULK AT MOST 1048576: true; the input reads as it did. -/
def frontTurnsUptoRow : OpenClaim := { program := "ytjfmhahlmnnacaa", sum := "894870362f19dc7a138cea01600b4d6c309ef45769a4cca6af6713e5da76fe91", func := "ropeway/ropewaylaw16.FrontTurns", spec := "frontTurns", inPlace := ["slices.overlaps[ropeway/api.View]"], apart := false, narrowed := true }
def FrontTurnsUptoSaid : Prop := frontTurnsUptoRow.holds Try.pinned (OpenSpec.upto frontTurnsSpec)

/-- 'ropewaylaw16.FrontAims', WHERE WHAT IT READS IS OF BULK AT MOST 1048576: true; the input reads as it did. -/
def frontAimsUptoRow : OpenClaim := { program := "ytjfmhahlmnnacaa", sum := "894870362f19dc7a138cea01600b4d6c309ef45769a4cca6af6713e5da76fe91", func := "ropeway/ropewaylaw16.FrontAims", spec := "frontAims", inPlace := ["slices.overlaps[ropeway/api.View]"], apart := false, narrowed := true }
def FrontAimsUptoSaid : Prop := frontAimsUptoRow.holds Try.pinned (OpenSpec.upto frontAimsSpec)

end Rows
end Go.Proofs.Ytjfmhahlmnnacaa
