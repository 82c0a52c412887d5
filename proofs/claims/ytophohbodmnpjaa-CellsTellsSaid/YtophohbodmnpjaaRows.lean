/-
  No cell of these rows narrows 'for every input' (looked for: loops, veiled, ifaces, maps, wideKeys, modest, calm, conditions, laid).
  DERIVED. THE GIVEN ROWS OF THIS SEAT. 8 by the template 'for every input the law returns true; each argument reads behind the call as it read before'; 0 by the template 'total and deterministic' (their statements: YtophohbodmnpjaaTotals.lean).
  GIVEN WITH THE SEED: the statements are not yours to turn. If you find one false, say at which input.
  Laid BY PROGRAM, IN A SANDBOX (cutbox-rows.mjs): the forced cells as the released guide's own fill.sh prints them over the translation 61f30ed62806fb99… (all of the seat's roots in one cut). By AI agents, Wed Nov 11 2026. No macro, syntax, notation, axiom, sorry.
-/
import Derived.Test.YtophohbodmnpjaaChecked
import GoSem.Claim
import GoSem.ClaimJoined
import GoSem.ClaimMapViews
import Derived.JoinedTies
import Derived.KernelRfl
namespace Go.Proofs.Ytophohbodmnpjaa
/- THE CELL 'sum', in the pinned program and in every row, IS THE sha256 OF THE DUMP (.gsa) THAT YtophohbodmnpjaaProg.lean LOADS. Nothing in Lean hashes anything: it is a label: what it is worth is what the hold of that sum in a sandbox is worth. -/
noncomputable def Try.pinned : Pinned := { name := "ytophohbodmnpjaa", sum := "61f30ed62806fb999eff69875bae63e8d9bd9ba478234a97fd217b64f0d38aa3", checked := Try.checked }
namespace Rows
def none {H : Type} : Left H := { results := [], args := [] }

/-- 'ropewaylaw05.ViewNames': WHATEVER THE INPUT: true; the input reads as it did. -/
def viewNamesSpec : ChangeSpec := { name := "viewNames", fn := fun _ => fun
  | [] => { results := [.lit (.bool true)], args := [] }
  | _ => none }
def viewNamesRow : OpenClaim := { program := "ytophohbodmnpjaa", sum := "61f30ed62806fb999eff69875bae63e8d9bd9ba478234a97fd217b64f0d38aa3", func := "ropeway/ropewaylaw05.ViewNames", spec := "viewNames", unfollowed := true, recurses := true, apart := false }
def ViewNamesSaid : Prop := viewNamesRow.holds Try.pinned (OpenSpec.ofChange viewNamesSpec)

/-- ITS FALSE NEIGHBOUR: 'it returns false'. Refute it at one input. -/
def viewNamesWrong : ChangeSpec := { name := "viewNames", fn := fun _ => fun
  | [] => { results := [.lit (.bool false)], args := [] }
  | _ => none }
def ViewNamesWrongFalsely : Prop := viewNamesRow.holds Try.pinned (OpenSpec.ofChange viewNamesWrong)

/-- 'ropewaylaw05.ViewOrder': WHATEVER THE INPUT: true; the input reads as it did. -/
def viewOrderSpec : ChangeSpec := { name := "viewOrder", fn := fun _ => fun
  | [d] => { results := [.lit (.bool true)], args := [d] }
  | _ => none }
def viewOrderRow : OpenClaim := { program := "ytophohbodmnpjaa", sum := "61f30ed62806fb999eff69875bae63e8d9bd9ba478234a97fd217b64f0d38aa3", func := "ropeway/ropewaylaw05.ViewOrder", spec := "viewOrder", unfollowed := true, recurses := true, apart := false }
def ViewOrderSaid : Prop := viewOrderRow.holds Try.pinned (OpenSpec.ofChange viewOrderSpec)

/-- ITS FALSE NEIGHBOUR: 'it returns false'. Refute it at one input. -/
def viewOrderWrong : ChangeSpec := { name := "viewOrder", fn := fun _ => fun
  | [d] => { results := [.lit (.bool false)], args := [d] }
  | _ => none }
def ViewOrderWrongFalsely : Prop := viewOrderRow.holds Try.pinned (OpenSpec.ofChange viewOrderWrong)

/-- 'ropewaylaw05.ViewOut': WHATEVER THE INPUT: true; the input reads as it did. -/
def viewOutSpec : ChangeSpec := { name := "viewOut", fn := fun _ => fun
  | [d1, d2, d3] => { results := [.lit (.bool true)], args := [d1, d2, d3] }
  | _ => none }
def viewOutRow : OpenClaim := { program := "ytophohbodmnpjaa", sum := "61f30ed62806fb999eff69875bae63e8d9bd9ba478234a97fd217b64f0d38aa3", func := "ropeway/ropewaylaw05.ViewOut", spec := "viewOut", unfollowed := true, recurses := true, apart := false }
def ViewOutSaid : Prop := viewOutRow.holds Try.pinned (OpenSpec.ofChange viewOutSpec)

/-- ITS FALSE NEIGHBOUR: 'it returns false'. Refute it at one input. -/
def viewOutWrong : ChangeSpec := { name := "viewOut", fn := fun _ => fun
  | [d1, d2, d3] => { results := [.lit (.bool false)], args := [d1, d2, d3] }
  | _ => none }
def ViewOutWrongFalsely : Prop := viewOutRow.holds Try.pinned (OpenSpec.ofChange viewOutWrong)

/-- 'ropewaylaw10.CellsChanges': WHATEVER THE INPUT: true; the input reads as it did. -/
def cellsChangesSpec : ChangeSpec := { name := "cellsChanges", fn := fun _ => fun
  | [d1, d2] => { results := [.lit (.bool true)], args := [d1, d2] }
  | _ => none }
def cellsChangesRow : OpenClaim := { program := "ytophohbodmnpjaa", sum := "61f30ed62806fb999eff69875bae63e8d9bd9ba478234a97fd217b64f0d38aa3", func := "ropeway/ropewaylaw10.CellsChanges", spec := "cellsChanges", unfollowed := true, recurses := true, apart := false }
def CellsChangesSaid : Prop := cellsChangesRow.holds Try.pinned (OpenSpec.ofChange cellsChangesSpec)

/-- ITS FALSE NEIGHBOUR: 'it returns false'. Refute it at one input. -/
def cellsChangesWrong : ChangeSpec := { name := "cellsChanges", fn := fun _ => fun
  | [d1, d2] => { results := [.lit (.bool false)], args := [d1, d2] }
  | _ => none }
def CellsChangesWrongFalsely : Prop := cellsChangesRow.holds Try.pinned (OpenSpec.ofChange cellsChangesWrong)

/-- 'ropewaylaw10.CellsFirst': WHATEVER THE INPUT: true; the input reads as it did. -/
def cellsFirstSpec : ChangeSpec := { name := "cellsFirst", fn := fun _ => fun
  | [d1, d2] => { results := [.lit (.bool true)], args := [d1, d2] }
  | _ => none }
def cellsFirstRow : OpenClaim := { program := "ytophohbodmnpjaa", sum := "61f30ed62806fb999eff69875bae63e8d9bd9ba478234a97fd217b64f0d38aa3", func := "ropeway/ropewaylaw10.CellsFirst", spec := "cellsFirst", unfollowed := true, recurses := true, apart := false }
def CellsFirstSaid : Prop := cellsFirstRow.holds Try.pinned (OpenSpec.ofChange cellsFirstSpec)

/-- ITS FALSE NEIGHBOUR: 'it returns false'. Refute it at one input. -/
def cellsFirstWrong : ChangeSpec := { name := "cellsFirst", fn := fun _ => fun
  | [d1, d2] => { results := [.lit (.bool false)], args := [d1, d2] }
  | _ => none }
def CellsFirstWrongFalsely : Prop := cellsFirstRow.holds Try.pinned (OpenSpec.ofChange cellsFirstWrong)

/-- 'ropewaylaw10.CellsNames': WHATEVER THE INPUT: true; the input reads as it did. -/
def cellsNamesSpec : ChangeSpec := { name := "cellsNames", fn := fun _ => fun
  | [] => { results := [.lit (.bool true)], args := [] }
  | _ => none }
def cellsNamesRow : OpenClaim := { program := "ytophohbodmnpjaa", sum := "61f30ed62806fb999eff69875bae63e8d9bd9ba478234a97fd217b64f0d38aa3", func := "ropeway/ropewaylaw10.CellsNames", spec := "cellsNames", unfollowed := true, recurses := true, apart := false }
def CellsNamesSaid : Prop := cellsNamesRow.holds Try.pinned (OpenSpec.ofChange cellsNamesSpec)

/-- ITS FALSE NEIGHBOUR: 'it returns false'. Refute it at one input. -/
def cellsNamesWrong : ChangeSpec := { name := "cellsNames", fn := fun _ => fun
  | [] => { results := [.lit (.bool false)], args := [] }
  | _ => none }
def CellsNamesWrongFalsely : Prop := cellsNamesRow.holds Try.pinned (OpenSpec.ofChange cellsNamesWrong)

/-- 'ropewaylaw10.CellsTells': WHATEVER THE INPUT: true; the input reads as it did. -/
def cellsTellsSpec : ChangeSpec := { name := "cellsTells", fn := fun _ => fun
  | [d1, d2, d3] => { results := [.lit (.bool true)], args := [d1, d2, d3] }
  | _ => none }
def cellsTellsRow : OpenClaim := { program := "ytophohbodmnpjaa", sum := "61f30ed62806fb999eff69875bae63e8d9bd9ba478234a97fd217b64f0d38aa3", func := "ropeway/ropewaylaw10.CellsTells", spec := "cellsTells", unfollowed := true, recurses := true, apart := false }
def CellsTellsSaid : Prop := cellsTellsRow.holds Try.pinned (OpenSpec.ofChange cellsTellsSpec)

/-- ITS FALSE NEIGHBOUR: 'it returns false'. Refute it at one input. -/
def cellsTellsWrong : ChangeSpec := { name := "cellsTells", fn := fun _ => fun
  | [d1, d2, d3] => { results := [.lit (.bool false)], args := [d1, d2, d3] }
  | _ => none }
def CellsTellsWrongFalsely : Prop := cellsTellsRow.holds Try.pinned (OpenSpec.ofChange cellsTellsWrong)

/-- 'ropewaylaw10.CellsTurns': WHATEVER THE INPUT: true; the input reads as it did. -/
def cellsTurnsSpec : ChangeSpec := { name := "cellsTurns", fn := fun _ => fun
  | [d1, d2, d3] => { results := [.lit (.bool true)], args := [d1, d2, d3] }
  | _ => none }
def cellsTurnsRow : OpenClaim := { program := "ytophohbodmnpjaa", sum := "61f30ed62806fb999eff69875bae63e8d9bd9ba478234a97fd217b64f0d38aa3", func := "ropeway/ropewaylaw10.CellsTurns", spec := "cellsTurns", unfollowed := true, recurses := true, apart := false }
def CellsTurnsSaid : Prop := cellsTurnsRow.holds Try.pinned (OpenSpec.ofChange cellsTurnsSpec)

/-- ITS FALSE NEIGHBOUR: 'it returns false'. Refute it at one input. -/
def cellsTurnsWrong : ChangeSpec := { name := "cellsTurns", fn := fun _ => fun
  | [d1, d2, d3] => { results := [.lit (.bool false)], args := [d1, d2, d3] }
  | _ => none }
def CellsTurnsWrongFalsely : Prop := cellsTurnsRow.holds Try.pinned (OpenSpec.ofChange cellsTurnsWrong)

/- THE SECOND FORM. 'bulk': how many values and letters a reading holds, each counted each time it is reached (what is shared counts as often as it is met; a slice's spare places count too). A statement '..UptoSaid' is the law's where the arguments, and the package variables that the reading takes, are together of bulk at most 1048576: NARROWER than '..Said'. Prove '..Said' where nothing that the law and all that it calls make is longer than what came in: it says more and counts as full. Else prove '..UptoSaid'. A law counts once. -/
mutual
def uptoBulk {H : Type} : DataW H → Nat
  | .lit (.string bytes) => bytes.length + 1
  | .lit _ => 1
  | .nil => 1
  | .ptr d => uptoBulk d + 1
  | .slice elems spare => uptoBulkAll elems + uptoBulkAll spare + 1
  | .agg parts => uptoBulkAll parts + 1
  | .iface _ d => uptoBulk d + 1
  | .map entries => uptoBulkEntries entries + 1
  | .held _ => 1
def uptoBulkAll {H : Type} : List (DataW H) → Nat
  | [] => 0
  | d :: r => uptoBulk d + uptoBulkAll r
def uptoBulkEntries {H : Type} : List (Lit × DataW H) → Nat
  | [] => 0
  | x :: r => uptoBulkEntry x + uptoBulkEntries r
def uptoBulkEntry {H : Type} : Lit × DataW H → Nat
  | (.string bytes, d) => bytes.length + uptoBulk d + 1
  | (_, d) => uptoBulk d + 1
 end
def uptoSmall : (H : Type) → List (DataW H) → Bool := fun _ ds => decide (uptoBulkAll ds ≤ 1048576)
def OpenSpec.upto (s : _root_.Go.ChangeSpec) : _root_.Go.OpenSpec := { _root_.Go.OpenSpec.ofChange s with cond := some uptoSmall }

/-- 'ropewaylaw05.ViewNames', WHERE WHAT IT READS IS OF BULK AT MOST 1048576: true; the input reads as it did. -/
def viewNamesUptoRow : OpenClaim := { program := "ytophohbodmnpjaa", sum := "61f30ed62806fb999eff69875bae63e8d9bd9ba478234a97fd217b64f0d38aa3", func := "ropeway/ropewaylaw05.ViewNames", spec := "viewNames", unfollowed := true, recurses := true, apart := false, narrowed := true }
def ViewNamesUptoSaid : Prop := viewNamesUptoRow.holds Try.pinned (OpenSpec.upto viewNamesSpec)

/-- 'ropewaylaw05.ViewOrder', WHERE WHAT IT READS IS OF BULK AT MOST 1048576: true; the input reads as it did. -/
def viewOrderUptoRow : OpenClaim := { program := "ytophohbodmnpjaa", sum := "61f30ed62806fb999eff69875bae63e8d9bd9ba478234a97fd217b64f0d38aa3", func := "ropeway/ropewaylaw05.ViewOrder", spec := "viewOrder", unfollowed := true, recurses := true, apart := false, narrowed := true }
def ViewOrderUptoSaid : Prop := viewOrderUptoRow.holds Try.pinned (OpenSpec.upto viewOrderSpec)

/-- 'ropewaylaw05.ViewOut', WHERE WHAT IT READS IS OF BULK AT MOST 1048576: true; the input reads as it did. -/
def viewOutUptoRow : OpenClaim := { program := "ytophohbodmnpjaa", sum := "61f30ed62806fb999eff69875bae63e8d9bd9ba478234a97fd217b64f0d38aa3", func := "ropeway/ropewaylaw05.ViewOut", spec := "viewOut", unfollowed := true, recurses := true, apart := false, narrowed := true }
def ViewOutUptoSaid : Prop := viewOutUptoRow.holds Try.pinned (OpenSpec.upto viewOutSpec)

/-- 'ropewaylaw10.CellsChanges', WHERE WHAT IT READS IS OF BULK AT MOST 1048576: true; the input reads as it did. -/
def cellsChangesUptoRow : OpenClaim := { program := "ytophohbodmnpjaa", sum := "61f30ed62806fb999eff69875bae63e8d9bd9ba478234a97fd217b64f0d38aa3", func := "ropeway/ropewaylaw10.CellsChanges", spec := "cellsChanges", unfollowed := true, recurses := true, apart := false, narrowed := true }
def CellsChangesUptoSaid : Prop := cellsChangesUptoRow.holds Try.pinned (OpenSpec.upto cellsChangesSpec)

/-- 'ropewaylaw10.CellsFirst', WHERE WHAT IT READS IS OF BULK AT MOST 1048576: true; the input reads as it did. -/
def cellsFirstUptoRow : OpenClaim := { program := "ytophohbodmnpjaa", sum := "61f30ed62806fb999eff69875bae63e8d9bd9ba478234a97fd217b64f0d38aa3", func := "ropeway/ropewaylaw10.CellsFirst", spec := "cellsFirst", unfollowed := true, recurses := true, apart := false, narrowed := true }
def CellsFirstUptoSaid : Prop := cellsFirstUptoRow.holds Try.pinned (OpenSpec.upto cellsFirstSpec)

/-- 'ropewaylaw10.CellsNames', WHERE WHAT IT READS IS OF BULK AT MOST 1048576: true; the input reads as it did. -/
def cellsNamesUptoRow : OpenClaim := { program := "ytophohbodmnpjaa", sum := "61f30ed62806fb999eff69875bae63e8d9bd9ba478234a97fd217b64f0d38aa3", func := "ropeway/ropewaylaw10.CellsNames", spec := "cellsNames", unfollowed := true, recurses := true, apart := false, narrowed := true }
def CellsNamesUptoSaid : Prop := cellsNamesUptoRow.holds Try.pinned (OpenSpec.upto cellsNamesSpec)

/-- 'ropewaylaw10.CellsTells', WHERE WHAT IT READS IS OF BULK AT MOST 1048576: true; the input reads as it did. -/
def cellsTellsUptoRow : OpenClaim := { program := "ytophohbodmnpjaa", sum := "61f30ed62806fb999eff69875bae63e8d9bd9ba478234a97fd217b64f0d38aa3", func := "ropeway/ropewaylaw10.CellsTells", spec := "cellsTells", unfollowed := true, recurses := true, apart := false, narrowed := true }
def CellsTellsUptoSaid : Prop := cellsTellsUptoRow.holds Try.pinned (OpenSpec.upto cellsTellsSpec)

/-- 'ropewaylaw10.CellsTurns', WHERE WHAT IT READS IS OF BULK AT MOST 1048576: true; the input reads as it did. -/
def cellsTurnsUptoRow : OpenClaim := { program := "ytophohbodmnpjaa", sum := "61f30ed62806fb999eff69875bae63e8d9bd9ba478234a97fd217b64f0d38aa3", func := "ropeway/ropewaylaw10.CellsTurns", spec := "cellsTurns", unfollowed := true, recurses := true, apart := false, narrowed := true }
def CellsTurnsUptoSaid : Prop := cellsTurnsUptoRow.holds Try.pinned (OpenSpec.upto cellsTurnsSpec)

end Rows
end Go.Proofs.Ytophohbodmnpjaa
