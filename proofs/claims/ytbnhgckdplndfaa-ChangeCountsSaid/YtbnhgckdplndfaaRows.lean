/-
  No cell of these rows narrows 'for every input' (looked for: loops, veiled, ifaces, maps, wideKeys, modest, calm, conditions, laid).
  DERIVED. THE GIVEN ROWS OF THIS SEAT. 12 by the template 'for every input the law returns true; each argument reads behind the call as it read before'; 0 by the template 'total and deterministic' (their statements: YtbnhgckdplndfaaTotals.lean).
  GIVEN WITH THE SEED: the statements are not yours to turn. If you find one false, say at which input.
  Laid BY PROGRAM, IN A SANDBOX (cutbox-rows.mjs): the forced cells as the released guide's own fill.sh prints them over the translation bc37923cd72e4eb9… (all of the seat's roots in one cut). By AI agents, Wed Nov 11 2026. No macro, syntax, notation, axiom, sorry.
-/
import Derived.Test.YtbnhgckdplndfaaChecked
import GoSem.Claim
import GoSem.ClaimJoined
import GoSem.ClaimMapViews
import Derived.JoinedTies
import Derived.KernelRfl
namespace Go.Proofs.Ytbnhgckdplndfaa
/- THE CELL 'sum', in the pinned program and in every row, IS THE sha256 OF THE DUMP (.gsa) THAT YtbnhgckdplndfaaProg.lean LOADS. Nothing in Lean hashes anything: it is a label: what it is worth is what the hold of that sum in a sandbox is worth. -/
noncomputable def Try.pinned : Pinned := { name := "ytbnhgckdplndfaa", sum := "bc37923cd72e4eb9921d3f7294d85d31ac24c17e6c489facb55b218919baacb1", checked := Try.checked }
namespace Rows
def none {H : Type} : Left H := { results := [], args := [] }

/-- 'ropewaylaw06.TagNexts': WHATEVER THE INPUT: true; the input reads as it did. -/
def tagNextsSpec : ChangeSpec := { name := "tagNexts", fn := fun _ => fun
  | [d1, d2, d3] => { results := [.lit (.bool true)], args := [d1, d2, d3] }
  | _ => none }
def tagNextsRow : OpenClaim := { program := "ytbnhgckdplndfaa", sum := "bc37923cd72e4eb9921d3f7294d85d31ac24c17e6c489facb55b218919baacb1", func := "ropeway/ropewaylaw06.TagNexts", spec := "tagNexts", apart := false }
def TagNextsSaid : Prop := tagNextsRow.holds Try.pinned (OpenSpec.ofChange tagNextsSpec)

/-- ITS FALSE NEIGHBOUR: 'it returns false'. Refute it at one input. -/
def tagNextsWrong : ChangeSpec := { name := "tagNexts", fn := fun _ => fun
  | [d1, d2, d3] => { results := [.lit (.bool false)], args := [d1, d2, d3] }
  | _ => none }
def TagNextsWrongFalsely : Prop := tagNextsRow.holds Try.pinned (OpenSpec.ofChange tagNextsWrong)

/-- 'ropewaylaw06.TagNewer': WHATEVER THE INPUT: true; the input reads as it did. -/
def tagNewerSpec : ChangeSpec := { name := "tagNewer", fn := fun _ => fun
  | [d1, d2, d3] => { results := [.lit (.bool true)], args := [d1, d2, d3] }
  | _ => none }
def tagNewerRow : OpenClaim := { program := "ytbnhgckdplndfaa", sum := "bc37923cd72e4eb9921d3f7294d85d31ac24c17e6c489facb55b218919baacb1", func := "ropeway/ropewaylaw06.TagNewer", spec := "tagNewer", apart := false }
def TagNewerSaid : Prop := tagNewerRow.holds Try.pinned (OpenSpec.ofChange tagNewerSpec)

/-- ITS FALSE NEIGHBOUR: 'it returns false'. Refute it at one input. -/
def tagNewerWrong : ChangeSpec := { name := "tagNewer", fn := fun _ => fun
  | [d1, d2, d3] => { results := [.lit (.bool false)], args := [d1, d2, d3] }
  | _ => none }
def TagNewerWrongFalsely : Prop := tagNewerRow.holds Try.pinned (OpenSpec.ofChange tagNewerWrong)

/-- 'ropewaylaw06.TagSeen': WHATEVER THE INPUT: true; the input reads as it did. -/
def tagSeenSpec : ChangeSpec := { name := "tagSeen", fn := fun _ => fun
  | [d1, d2, d3] => { results := [.lit (.bool true)], args := [d1, d2, d3] }
  | _ => none }
def tagSeenRow : OpenClaim := { program := "ytbnhgckdplndfaa", sum := "bc37923cd72e4eb9921d3f7294d85d31ac24c17e6c489facb55b218919baacb1", func := "ropeway/ropewaylaw06.TagSeen", spec := "tagSeen", apart := false }
def TagSeenSaid : Prop := tagSeenRow.holds Try.pinned (OpenSpec.ofChange tagSeenSpec)

/-- ITS FALSE NEIGHBOUR: 'it returns false'. Refute it at one input. -/
def tagSeenWrong : ChangeSpec := { name := "tagSeen", fn := fun _ => fun
  | [d1, d2, d3] => { results := [.lit (.bool false)], args := [d1, d2, d3] }
  | _ => none }
def TagSeenWrongFalsely : Prop := tagSeenRow.holds Try.pinned (OpenSpec.ofChange tagSeenWrong)

/-- 'ropewaylaw04.ChangeCounts': WHATEVER THE INPUT: true; the input reads as it did. -/
def changeCountsSpec : ChangeSpec := { name := "changeCounts", fn := fun _ => fun
  | [d1, d2] => { results := [.lit (.bool true)], args := [d1, d2] }
  | _ => none }
def changeCountsRow : OpenClaim := { program := "ytbnhgckdplndfaa", sum := "bc37923cd72e4eb9921d3f7294d85d31ac24c17e6c489facb55b218919baacb1", func := "ropeway/ropewaylaw04.ChangeCounts", spec := "changeCounts", apart := false }
def ChangeCountsSaid : Prop := changeCountsRow.holds Try.pinned (OpenSpec.ofChange changeCountsSpec)

/-- ITS FALSE NEIGHBOUR: 'it returns false'. Refute it at one input. -/
def changeCountsWrong : ChangeSpec := { name := "changeCounts", fn := fun _ => fun
  | [d1, d2] => { results := [.lit (.bool false)], args := [d1, d2] }
  | _ => none }
def ChangeCountsWrongFalsely : Prop := changeCountsRow.holds Try.pinned (OpenSpec.ofChange changeCountsWrong)

/-- 'ropewaylaw04.ChangeSets': WHATEVER THE INPUT: true; the input reads as it did. -/
def changeSetsSpec : ChangeSpec := { name := "changeSets", fn := fun _ => fun
  | [d1, d2, d3] => { results := [.lit (.bool true)], args := [d1, d2, d3] }
  | _ => none }
def changeSetsRow : OpenClaim := { program := "ytbnhgckdplndfaa", sum := "bc37923cd72e4eb9921d3f7294d85d31ac24c17e6c489facb55b218919baacb1", func := "ropeway/ropewaylaw04.ChangeSets", spec := "changeSets", apart := false }
def ChangeSetsSaid : Prop := changeSetsRow.holds Try.pinned (OpenSpec.ofChange changeSetsSpec)

/-- ITS FALSE NEIGHBOUR: 'it returns false'. Refute it at one input. -/
def changeSetsWrong : ChangeSpec := { name := "changeSets", fn := fun _ => fun
  | [d1, d2, d3] => { results := [.lit (.bool false)], args := [d1, d2, d3] }
  | _ => none }
def ChangeSetsWrongFalsely : Prop := changeSetsRow.holds Try.pinned (OpenSpec.ofChange changeSetsWrong)

/-- 'ropewaylaw04.ChangeNames': WHATEVER THE INPUT: true; the input reads as it did. -/
def changeNamesSpec : ChangeSpec := { name := "changeNames", fn := fun _ => fun
  | [] => { results := [.lit (.bool true)], args := [] }
  | _ => none }
def changeNamesRow : OpenClaim := { program := "ytbnhgckdplndfaa", sum := "bc37923cd72e4eb9921d3f7294d85d31ac24c17e6c489facb55b218919baacb1", func := "ropeway/ropewaylaw04.ChangeNames", spec := "changeNames", apart := false }
def ChangeNamesSaid : Prop := changeNamesRow.holds Try.pinned (OpenSpec.ofChange changeNamesSpec)

/-- ITS FALSE NEIGHBOUR: 'it returns false'. Refute it at one input. -/
def changeNamesWrong : ChangeSpec := { name := "changeNames", fn := fun _ => fun
  | [] => { results := [.lit (.bool false)], args := [] }
  | _ => none }
def ChangeNamesWrongFalsely : Prop := changeNamesRow.holds Try.pinned (OpenSpec.ofChange changeNamesWrong)

/-- 'ropewaylaw04.ChangeBack': WHATEVER THE INPUT: true; the input reads as it did. -/
def changeBackSpec : ChangeSpec := { name := "changeBack", fn := fun _ => fun
  | [d1, d2] => { results := [.lit (.bool true)], args := [d1, d2] }
  | _ => none }
def changeBackRow : OpenClaim := { program := "ytbnhgckdplndfaa", sum := "bc37923cd72e4eb9921d3f7294d85d31ac24c17e6c489facb55b218919baacb1", func := "ropeway/ropewaylaw04.ChangeBack", spec := "changeBack", apart := false }
def ChangeBackSaid : Prop := changeBackRow.holds Try.pinned (OpenSpec.ofChange changeBackSpec)

/-- ITS FALSE NEIGHBOUR: 'it returns false'. Refute it at one input. -/
def changeBackWrong : ChangeSpec := { name := "changeBack", fn := fun _ => fun
  | [d1, d2] => { results := [.lit (.bool false)], args := [d1, d2] }
  | _ => none }
def ChangeBackWrongFalsely : Prop := changeBackRow.holds Try.pinned (OpenSpec.ofChange changeBackWrong)

/-- 'ropewaylaw06.TagNames': WHATEVER THE INPUT: true; the input reads as it did. -/
def tagNamesSpec : ChangeSpec := { name := "tagNames", fn := fun _ => fun
  | [] => { results := [.lit (.bool true)], args := [] }
  | _ => none }
def tagNamesRow : OpenClaim := { program := "ytbnhgckdplndfaa", sum := "bc37923cd72e4eb9921d3f7294d85d31ac24c17e6c489facb55b218919baacb1", func := "ropeway/ropewaylaw06.TagNames", spec := "tagNames", unfollowed := true, recurses := true, apart := false }
def TagNamesSaid : Prop := tagNamesRow.holds Try.pinned (OpenSpec.ofChange tagNamesSpec)

/-- ITS FALSE NEIGHBOUR: 'it returns false'. Refute it at one input. -/
def tagNamesWrong : ChangeSpec := { name := "tagNames", fn := fun _ => fun
  | [] => { results := [.lit (.bool false)], args := [] }
  | _ => none }
def TagNamesWrongFalsely : Prop := tagNamesRow.holds Try.pinned (OpenSpec.ofChange tagNamesWrong)

/-- 'ropewaylaw06.TagTells': WHATEVER THE INPUT: true; the input reads as it did. -/
def tagTellsSpec : ChangeSpec := { name := "tagTells", fn := fun _ => fun
  | [d1, d2, d3] => { results := [.lit (.bool true)], args := [d1, d2, d3] }
  | _ => none }
def tagTellsRow : OpenClaim := { program := "ytbnhgckdplndfaa", sum := "bc37923cd72e4eb9921d3f7294d85d31ac24c17e6c489facb55b218919baacb1", func := "ropeway/ropewaylaw06.TagTells", spec := "tagTells", unfollowed := true, recurses := true, apart := false }
def TagTellsSaid : Prop := tagTellsRow.holds Try.pinned (OpenSpec.ofChange tagTellsSpec)

/-- ITS FALSE NEIGHBOUR: 'it returns false'. Refute it at one input. -/
def tagTellsWrong : ChangeSpec := { name := "tagTells", fn := fun _ => fun
  | [d1, d2, d3] => { results := [.lit (.bool false)], args := [d1, d2, d3] }
  | _ => none }
def TagTellsWrongFalsely : Prop := tagTellsRow.holds Try.pinned (OpenSpec.ofChange tagTellsWrong)

/-- 'ropewaylaw06.TagChain': WHATEVER THE INPUT: true; the input reads as it did. -/
def tagChainSpec : ChangeSpec := { name := "tagChain", fn := fun _ => fun
  | [d1, d2, d3] => { results := [.lit (.bool true)], args := [d1, d2, d3] }
  | _ => none }
def tagChainRow : OpenClaim := { program := "ytbnhgckdplndfaa", sum := "bc37923cd72e4eb9921d3f7294d85d31ac24c17e6c489facb55b218919baacb1", func := "ropeway/ropewaylaw06.TagChain", spec := "tagChain", unfollowed := true, recurses := true, apart := false }
def TagChainSaid : Prop := tagChainRow.holds Try.pinned (OpenSpec.ofChange tagChainSpec)

/-- ITS FALSE NEIGHBOUR: 'it returns false'. Refute it at one input. -/
def tagChainWrong : ChangeSpec := { name := "tagChain", fn := fun _ => fun
  | [d1, d2, d3] => { results := [.lit (.bool false)], args := [d1, d2, d3] }
  | _ => none }
def TagChainWrongFalsely : Prop := tagChainRow.holds Try.pinned (OpenSpec.ofChange tagChainWrong)

/-- 'ropewaylaw04.ChangeJoins': WHATEVER THE INPUT: true; the input reads as it did. -/
def changeJoinsSpec : ChangeSpec := { name := "changeJoins", fn := fun _ => fun
  | [d1, d2, d3] => { results := [.lit (.bool true)], args := [d1, d2, d3] }
  | _ => none }
def changeJoinsRow : OpenClaim := { program := "ytbnhgckdplndfaa", sum := "bc37923cd72e4eb9921d3f7294d85d31ac24c17e6c489facb55b218919baacb1", func := "ropeway/ropewaylaw04.ChangeJoins", spec := "changeJoins", apart := false }
def ChangeJoinsSaid : Prop := changeJoinsRow.holds Try.pinned (OpenSpec.ofChange changeJoinsSpec)

/-- ITS FALSE NEIGHBOUR: 'it returns false'. Refute it at one input. -/
def changeJoinsWrong : ChangeSpec := { name := "changeJoins", fn := fun _ => fun
  | [d1, d2, d3] => { results := [.lit (.bool false)], args := [d1, d2, d3] }
  | _ => none }
def ChangeJoinsWrongFalsely : Prop := changeJoinsRow.holds Try.pinned (OpenSpec.ofChange changeJoinsWrong)

/-- 'ropewaylaw04.ChangeTurns': WHATEVER THE INPUT: true; the input reads as it did. -/
def changeTurnsSpec : ChangeSpec := { name := "changeTurns", fn := fun _ => fun
  | [d1, d2, d3] => { results := [.lit (.bool true)], args := [d1, d2, d3] }
  | _ => none }
def changeTurnsRow : OpenClaim := { program := "ytbnhgckdplndfaa", sum := "bc37923cd72e4eb9921d3f7294d85d31ac24c17e6c489facb55b218919baacb1", func := "ropeway/ropewaylaw04.ChangeTurns", spec := "changeTurns", apart := false }
def ChangeTurnsSaid : Prop := changeTurnsRow.holds Try.pinned (OpenSpec.ofChange changeTurnsSpec)

/-- ITS FALSE NEIGHBOUR: 'it returns false'. Refute it at one input. -/
def changeTurnsWrong : ChangeSpec := { name := "changeTurns", fn := fun _ => fun
  | [d1, d2, d3] => { results := [.lit (.bool false)], args := [d1, d2, d3] }
  | _ => none }
def ChangeTurnsWrongFalsely : Prop := changeTurnsRow.holds Try.pinned (OpenSpec.ofChange changeTurnsWrong)

/- THE SECOND FORM. 'bulk': how many values and letters a reading holds, each counted each time it is reached (what is shared counts as often as it is met; a slice's spare places count too). A statement '..UptoSaid' is the law's where the arguments, and the package variables that the reading takes, are together of bulk at most 1048576: NARROWER than '..Said'. Prove '..Said' where nothing that the law and all that it calls make is longer than what came in: it says more and counts as full. Else prove '..UptoSaid'. A law counts once. -/
mutual
def uptoBulk {H : Type} : DataW H → Nat
  | .lit (.string bytes) => bytes.length + 1
  | .lit _ => 1
  | .nil => 1
  | .ptr d => uptoBulk d + 1
  | .slice elems spare => uptoBulkAll elems + uptoBulkAll spare + 1
  | .agg parts => uptoBulkAll parts + 1
  | .iface _ d => uptoBulk d + 1
  | .map entries => uptoBulkEntries entries + 1
  | .held _ => 1
def uptoBulkAll {H : Type} : List (DataW H) → Nat
  | [] => 0
  | d :: r => uptoBulk d + uptoBulkAll r
def uptoBulkEntries {H : Type} : List (Lit × DataW H) → Nat
  | [] => 0
  | x :: r => uptoBulkEntry x + uptoBulkEntries r
def uptoBulkEntry {H : Type} : Lit × DataW H → Nat
  | (.string bytes, d) => bytes.length + uptoBulk d + 1
  | (_, d) => uptoBulk d + 1
 end
def uptoSmall : (H : Type) → List (DataW H) → Bool := fun _ ds => decide (uptoBulkAll ds ≤ 1048576)
def OpenSpec.upto (s : _root_.Go.ChangeSpec) : _root_.Go.OpenSpec := { _root_.Go.OpenSpec.ofChange s with cond := some uptoSmall }

/-- 'ropewaylaw06.TagNexts', WHERE WHAT IT READS IS OF BULK AT MOST 1048576: true; the input reads as it did. -/
def tagNextsUptoRow : OpenClaim := { program := "ytbnhgckdplndfaa", sum := "bc37923cd72e4eb9921d3f7294d85d31ac24c17e6c489facb55b218919baacb1", func := "ropeway/ropewaylaw06.TagNexts", spec := "tagNexts", apart := false, narrowed := true }
def TagNextsUptoSaid : Prop := tagNextsUptoRow.holds Try.pinned (OpenSpec.upto tagNextsSpec)

/-- 'ropewaylaw06.TagNewer', WHERE WHAT IT READS IS OF BULK AT MOST 1048576: true; the input reads as it did. -/
def tagNewerUptoRow : OpenClaim := { program := "ytbnhgckdplndfaa", sum := "bc37923cd72e4eb9921d3f7294d85d31ac24c17e6c489facb55b218919baacb1", func := "ropeway/ropewaylaw06.TagNewer", spec := "tagNewer", apart := false, narrowed := true }
def TagNewerUptoSaid : Prop := tagNewerUptoRow.holds Try.pinned (OpenSpec.upto tagNewerSpec)

/-- 'ropewaylaw06.TagSeen', WHERE WHAT IT READS IS OF BULK AT MOST 1048576: true; the input reads as it did. -/
def tagSeenUptoRow : OpenClaim := { program := "ytbnhgckdplndfaa", sum := "bc37923cd72e4eb9921d3f7294d85d31ac24c17e6c489facb55b218919baacb1", func := "ropeway/ropewaylaw06.TagSeen", spec := "tagSeen", apart := false, narrowed := true }
def TagSeenUptoSaid : Prop := tagSeenUptoRow.holds Try.pinned (OpenSpec.upto tagSeenSpec)

/-- 'ropewaylaw04.ChangeCounts', WHERE WHAT IT READS IS OF BULK AT MOST 1048576: true; the input reads as it did. -/
def changeCountsUptoRow : OpenClaim := { program := "ytbnhgckdplndfaa", sum := "bc37923cd72e4eb9921d3f7294d85d31ac24c17e6c489facb55b218919baacb1", func := "ropeway/ropewaylaw04.ChangeCounts", spec := "changeCounts", apart := false, narrowed := true }
def ChangeCountsUptoSaid : Prop := changeCountsUptoRow.holds Try.pinned (OpenSpec.upto changeCountsSpec)

/-- 'ropewaylaw04.ChangeSets', WHERE WHAT IT READS IS OF BULK AT MOST 1048576: true; the input reads as it did. -/
def changeSetsUptoRow : OpenClaim := { program := "ytbnhgckdplndfaa", sum := "bc37923cd72e4eb9921d3f7294d85d31ac24c17e6c489facb55b218919baacb1", func := "ropeway/ropewaylaw04.ChangeSets", spec := "changeSets", apart := false, narrowed := true }
def ChangeSetsUptoSaid : Prop := changeSetsUptoRow.holds Try.pinned (OpenSpec.upto changeSetsSpec)

/-- 'ropewaylaw04.ChangeNames', WHERE WHAT IT READS IS OF BULK AT MOST 1048576: true; the input reads as it did. -/
def changeNamesUptoRow : OpenClaim := { program := "ytbnhgckdplndfaa", sum := "bc37923cd72e4eb9921d3f7294d85d31ac24c17e6c489facb55b218919baacb1", func := "ropeway/ropewaylaw04.ChangeNames", spec := "changeNames", apart := false, narrowed := true }
def ChangeNamesUptoSaid : Prop := changeNamesUptoRow.holds Try.pinned (OpenSpec.upto changeNamesSpec)

/-- 'ropewaylaw04.ChangeBack', WHERE WHAT IT READS IS OF BULK AT MOST 1048576: true; the input reads as it did. -/
def changeBackUptoRow : OpenClaim := { program := "ytbnhgckdplndfaa", sum := "bc37923cd72e4eb9921d3f7294d85d31ac24c17e6c489facb55b218919baacb1", func := "ropeway/ropewaylaw04.ChangeBack", spec := "changeBack", apart := false, narrowed := true }
def ChangeBackUptoSaid : Prop := changeBackUptoRow.holds Try.pinned (OpenSpec.upto changeBackSpec)

/-- 'ropewaylaw06.TagNames', WHERE WHAT IT READS IS OF BULK AT MOST 1048576: true; the input reads as it did. -/
def tagNamesUptoRow : OpenClaim := { program := "ytbnhgckdplndfaa", sum := "bc37923cd72e4eb9921d3f7294d85d31ac24c17e6c489facb55b218919baacb1", func := "ropeway/ropewaylaw06.TagNames", spec := "tagNames", unfollowed := true, recurses := true, apart := false, narrowed := true }
def TagNamesUptoSaid : Prop := tagNamesUptoRow.holds Try.pinned (OpenSpec.upto tagNamesSpec)

/-- 'ropewaylaw06.TagTells', WHERE WHAT IT READS IS OF BULK AT MOST 1048576: true; the input reads as it did. -/
def tagTellsUptoRow : OpenClaim := { program := "ytbnhgckdplndfaa", sum := "bc37923cd72e4eb9921d3f7294d85d31ac24c17e6c489facb55b218919baacb1", func := "ropeway/ropewaylaw06.TagTells", spec := "tagTells", unfollowed := true, recurses := true, apart := false, narrowed := true }
def TagTellsUptoSaid : Prop := tagTellsUptoRow.holds Try.pinned (OpenSpec.upto tagTellsSpec)

/-- 'ropewaylaw06.TagChain', WHERE WHAT IT READS IS OF BULK AT MOST 1048576: true; the input reads as it did. -/
def tagChainUptoRow : OpenClaim := { program := "ytbnhgckdplndfaa", sum := "bc37923cd72e4eb9921d3f7294d85d31ac24c17e6c489facb55b218919baacb1", func := "ropeway/ropewaylaw06.TagChain", spec := "tagChain", unfollowed := true, recurses := true, apart := false, narrowed := true }
def TagChainUptoSaid : Prop := tagChainUptoRow.holds Try.pinned (OpenSpec.upto tagChainSpec)

/-- 'ropewaylaw04.ChangeJoins', WHERE WHAT IT READS IS OF BULK AT MOST 1048576: true; the input reads as it did. -/
def changeJoinsUptoRow : OpenClaim := { program := "ytbnhgckdplndfaa", sum := "bc37923cd72e4eb9921d3f7294d85d31ac24c17e6c489facb55b218919baacb1", func := "ropeway/ropewaylaw04.ChangeJoins", spec := "changeJoins", apart := false, narrowed := true }
def ChangeJoinsUptoSaid : Prop := changeJoinsUptoRow.holds Try.pinned (OpenSpec.upto changeJoinsSpec)

/-- 'ropewaylaw04.ChangeTurns', WHERE WHAT IT READS IS OF BULK AT MOST 1048576: true; the input reads as it did. -/
def changeTurnsUptoRow : OpenClaim := { program := "ytbnhgckdplndfaa", sum := "bc37923cd72e4eb9921d3f7294d85d31ac24c17e6c489facb55b218919baacb1", func := "ropeway/ropewaylaw04.ChangeTurns", spec := "changeTurns", apart := false, narrowed := true }
def ChangeTurnsUptoSaid : Prop := changeTurnsUptoRow.holds Try.pinned (OpenSpec.upto changeTurnsSpec)

end Rows
end Go.Proofs.Ytbnhgckdplndfaa
