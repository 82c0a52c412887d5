/-
  No cell of these rows narrows 'for every input' (looked for: loops, veiled, ifaces, maps, wideKeys, modest, calm, conditions, laid).
  DERIVED. THE GIVEN ROWS OF THIS SEAT. 4 by the template 'for every input the law returns true; each argument reads behind the call as it read before'; 0 by the template 'total and deterministic' (their statements: YtoelfknhnmhlmaaTotals.lean).
  GIVEN WITH THE SEED: the statements are not yours to turn. If you find one false, say at which input.
  Laid BY PROGRAM, IN A SANDBOX (cutbox-rows.mjs): the forced cells as the released guide's own fill.sh prints them over the translation b4e315b8db7a4040… (all of the seat's roots in one cut). By AI agents, Wed Nov 11 2026. No macro, syntax, notation, axiom, sorry.
-/
import Derived.Test.YtoelfknhnmhlmaaChecked
import GoSem.Claim
import GoSem.ClaimJoined
import GoSem.ClaimMapViews
import Derived.JoinedTies
import Derived.KernelRfl
namespace Go.Proofs.Ytoelfknhnmhlmaa
/- THE CELL 'sum', in the pinned program and in every row, IS THE sha256 OF THE DUMP (.gsa) THAT YtoelfknhnmhlmaaProg.lean LOADS. Nothing in Lean hashes anything: it is a label: what it is worth is what the hold of that sum in a sandbox is worth. -/
noncomputable def Try.pinned : Pinned := { name := "ytoelfknhnmhlmaa", sum := "b4e315b8db7a4040fa93b6e87dc0230ae21e556afeaa6302a0adcb8f1d22b156", checked := Try.checked }
namespace Rows
def none {H : Type} : Left H := { results := [], args := [] }

/-- 'ropewaylaw15.SnapNames': WHATEVER THE INPUT: true; the input reads as it did. -/
def snapNamesSpec : ChangeSpec := { name := "snapNames", fn := fun _ => fun
  | [] => { results := [.lit (.bool true)], args := [] }
  | _ => none }
def snapNamesRow : OpenClaim := { program := "ytoelfknhnmhlmaa", sum := "b4e315b8db7a4040fa93b6e87dc0230ae21e556afeaa6302a0adcb8f1d22b156", func := "ropeway/ropewaylaw15.SnapNames", spec := "snapNames", unfollowed := true, recurses := true, apart := false }
def SnapNamesSaid : Prop := snapNamesRow.holds Try.pinned (OpenSpec.ofChange snapNamesSpec)

/-- ITS FALSE NEIGHBOUR: 'it returns false'. Refute it at one input. -/
def snapNamesWrong : ChangeSpec := { name := "snapNames", fn := fun _ => fun
  | [] => { results := [.lit (.bool false)], args := [] }
  | _ => none }
def SnapNamesWrongFalsely : Prop := snapNamesRow.holds Try.pinned (OpenSpec.ofChange snapNamesWrong)

/-- 'ropewaylaw15.SnapRuns': WHATEVER THE INPUT: true; the input reads as it did. -/
def snapRunsSpec : ChangeSpec := { name := "snapRuns", fn := fun _ => fun
  | [d1, d2, d3] => { results := [.lit (.bool true)], args := [d1, d2, d3] }
  | _ => none }
def snapRunsRow : OpenClaim := { program := "ytoelfknhnmhlmaa", sum := "b4e315b8db7a4040fa93b6e87dc0230ae21e556afeaa6302a0adcb8f1d22b156", func := "ropeway/ropewaylaw15.SnapRuns", spec := "snapRuns", unfollowed := true, recurses := true, apart := false }
def SnapRunsSaid : Prop := snapRunsRow.holds Try.pinned (OpenSpec.ofChange snapRunsSpec)

/-- ITS FALSE NEIGHBOUR: 'it returns false'. Refute it at one input. -/
def snapRunsWrong : ChangeSpec := { name := "snapRuns", fn := fun _ => fun
  | [d1, d2, d3] => { results := [.lit (.bool false)], args := [d1, d2, d3] }
  | _ => none }
def SnapRunsWrongFalsely : Prop := snapRunsRow.holds Try.pinned (OpenSpec.ofChange snapRunsWrong)

/-- 'ropewaylaw15.SnapEnds': WHATEVER THE INPUT: true; the input reads as it did. -/
def snapEndsSpec : ChangeSpec := { name := "snapEnds", fn := fun _ => fun
  | [d1, d2, d3] => { results := [.lit (.bool true)], args := [d1, d2, d3] }
  | _ => none }
def snapEndsRow : OpenClaim := { program := "ytoelfknhnmhlmaa", sum := "b4e315b8db7a4040fa93b6e87dc0230ae21e556afeaa6302a0adcb8f1d22b156", func := "ropeway/ropewaylaw15.SnapEnds", spec := "snapEnds", unfollowed := true, recurses := true, apart := false }
def SnapEndsSaid : Prop := snapEndsRow.holds Try.pinned (OpenSpec.ofChange snapEndsSpec)

/-- ITS FALSE NEIGHBOUR: 'it returns false'. Refute it at one input. -/
def snapEndsWrong : ChangeSpec := { name := "snapEnds", fn := fun _ => fun
  | [d1, d2, d3] => { results := [.lit (.bool false)], args := [d1, d2, d3] }
  | _ => none }
def SnapEndsWrongFalsely : Prop := snapEndsRow.holds Try.pinned (OpenSpec.ofChange snapEndsWrong)

/-- 'ropewaylaw15.SnapMeets': WHATEVER THE INPUT: true; the input reads as it did. -/
def snapMeetsSpec : ChangeSpec := { name := "snapMeets", fn := fun _ => fun
  | [d1, d2] => { results := [.lit (.bool true)], args := [d1, d2] }
  | _ => none }
def snapMeetsRow : OpenClaim := { program := "ytoelfknhnmhlmaa", sum := "b4e315b8db7a4040fa93b6e87dc0230ae21e556afeaa6302a0adcb8f1d22b156", func := "ropeway/ropewaylaw15.SnapMeets", spec := "snapMeets", unfollowed := true, recurses := true, apart := false }
def SnapMeetsSaid : Prop := snapMeetsRow.holds Try.pinned (OpenSpec.ofChange snapMeetsSpec)

/-- ITS FALSE NEIGHBOUR: 'it returns false'. Refute it at one input. -/
def snapMeetsWrong : ChangeSpec := { name := "snapMeets", fn := fun _ => fun
  | [d1, d2] => { results := [.lit (.bool false)], args := [d1, d2] }
  | _ => none }
def SnapMeetsWrongFalsely : Prop := snapMeetsRow.holds Try.pinned (OpenSpec.ofChange snapMeetsWrong)

/- THE SECOND FORM. 'bulk': how many values and letters a reading holds, each counted each time it is reached (what is shared counts as often as it is met; a slice's spare places count too). A statement '..UptoSaid' is the law's where the arguments, and the package variables that the reading takes, are together of bulk at most 1048576: NARROWER than '..Said'. Prove '..Said' where nothing that the law and all that it calls make is longer than what came in: it says more and counts as full. Else prove '..UptoSaid'. A law counts once. -/
mutual
def uptoBulk {H : Type} : DataW H → Nat
  | .lit (.string bytes) => bytes.length + 1
  | .lit _ => 1
  | .nil => 1
  | .ptr d => uptoBulk d + 1
  | .slice elems spare => uptoBulkAll elems + uptoBulkAll spare + 1
  | .agg parts => uptoBulkAll parts + 1
  | .iface _ d => uptoBulk d + 1
  | .map entries => uptoBulkEntries entries + 1
  | .held _ => 1
def uptoBulkAll {H : Type} : List (DataW H) → Nat
  | [] => 0
  | d :: r => uptoBulk d + uptoBulkAll r
def uptoBulkEntries {H : Type} : List (Lit × DataW H) → Nat
  | [] => 0
  | x :: r => uptoBulkEntry x + uptoBulkEntries r
def uptoBulkEntry {H : Type} : Lit × DataW H → Nat
  | (.string bytes, d) => bytes.length + uptoBulk d + 1
  | (_, d) => uptoBulk d + 1
 end
def uptoSmall : (H : Type) → List (DataW H) → Bool := fun _ ds => decide (uptoBulkAll ds ≤ 1048576)
def OpenSpec.upto (s : _root_.Go.ChangeSpec) : _root_.Go.OpenSpec := { _root_.Go.OpenSpec.ofChange s with cond := some uptoSmall }

/-- 'ropewaylaw15.SnapNames', WHERE WHAT IT READS IS OF BULK AT MOST 1048576: true; the input reads as it did. -/
def snapNamesUptoRow : OpenClaim := { program := "ytoelfknhnmhlmaa", sum := "b4e315b8db7a4040fa93b6e87dc0230ae21e556afeaa6302a0adcb8f1d22b156", func := "ropeway/ropewaylaw15.SnapNames", spec := "snapNames", unfollowed := true, recurses := true, apart := false, narrowed := true }
def SnapNamesUptoSaid : Prop := snapNamesUptoRow.holds Try.pinned (OpenSpec.upto snapNamesSpec)

/-- 'ropewaylaw15.SnapRuns', WHERE WHAT IT READS IS OF BULK AT MOST 1048576: true; the input reads as it did. -/
def snapRunsUptoRow : OpenClaim := { program := "ytoelfknhnmhlmaa", sum := "b4e315b8db7a4040fa93b6e87dc0230ae21e556afeaa6302a0adcb8f1d22b156", func := "ropeway/ropewaylaw15.SnapRuns", spec := "snapRuns", unfollowed := true, recurses := true, apart := false, narrowed := true }
def SnapRunsUptoSaid : Prop := snapRunsUptoRow.holds Try.pinned (OpenSpec.upto snapRunsSpec)

/-- 'ropewaylaw15.SnapEnds', WHERE WHAT IT READS IS OF BULK AT MOST 1048576: true; the input reads as it did. -/
def snapEndsUptoRow : OpenClaim := { program := "ytoelfknhnmhlmaa", sum := "b4e315b8db7a4040fa93b6e87dc0230ae21e556afeaa6302a0adcb8f1d22b156", func := "ropeway/ropewaylaw15.SnapEnds", spec := "snapEnds", unfollowed := true, recurses := true, apart := false, narrowed := true }
def SnapEndsUptoSaid : Prop := snapEndsUptoRow.holds Try.pinned (OpenSpec.upto snapEndsSpec)

/-- 'ropewaylaw15.SnapMeets', WHERE WHAT IT READS IS OF BULK AT MOST 1048576: true; the input reads as it did. -/
def snapMeetsUptoRow : OpenClaim := { program := "ytoelfknhnmhlmaa", sum := "b4e315b8db7a4040fa93b6e87dc0230ae21e556afeaa6302a0adcb8f1d22b156", func := "ropeway/ropewaylaw15.SnapMeets", spec := "snapMeets", unfollowed := true, recurses := true, apart := false, narrowed := true }
def SnapMeetsUptoSaid : Prop := snapMeetsUptoRow.holds Try.pinned (OpenSpec.upto snapMeetsSpec)

end Rows
end Go.Proofs.Ytoelfknhnmhlmaa
