/-
  No cell of these rows narrows 'for every input' (looked for: loops, veiled, ifaces, maps, wideKeys, modest, calm, conditions, laid).
  DERIVED. THE GIVEN ROWS OF THIS SEAT. 9 by the template 'for every input the law returns true; each argument reads behind the call as it read before'; 0 by the template 'total and deterministic' (their statements: YtkefmjdhbmmaaaaTotals.lean).
  GIVEN WITH THE SEED: the statements are not yours to turn. If you find one false, say at which input.
  Laid BY PROGRAM, IN A SANDBOX (cutbox-rows.mjs): the forced cells as the released guide's own fill.sh prints them over the translation 2fc979e91dc6e16d… (all of the seat's roots in one cut). By AI agents, Wed Nov 11 2026. No macro, syntax, notation, axiom, sorry.
-/
import Derived.Test.YtkefmjdhbmmaaaaChecked
import GoSem.Claim
import GoSem.ClaimJoined
import GoSem.ClaimMapViews
import Derived.JoinedTies
import Derived.KernelRfl
namespace Go.Proofs.Ytkefmjdhbmmaaaa
/- THE CELL 'sum', in the pinned program and in every row, IS THE sha256 OF THE DUMP (.gsa) THAT YtkefmjdhbmmaaaaProg.lean LOADS. Nothing in Lean hashes anything: it is a label: what it is worth is what the hold of that sum in a sandbox is worth. -/
noncomputable def Try.pinned : Pinned := { name := "ytkefmjdhbmmaaaa", sum := "2fc979e91dc6e16d6118e2768750a826ad28639a75ca99380ec75bf03086c904", checked := Try.checked }
namespace Rows
def none {H : Type} : Left H := { results := [], args := [] }

/-- 'ropewaylaw07.BookNames': WHATEVER THE INPUT: true; the input reads as it did. -/
def bookNamesSpec : ChangeSpec := { name := "bookNames", fn := fun _ => fun
  | [] => { results := [.lit (.bool true)], args := [] }
  | _ => none }
def bookNamesRow : OpenClaim := { program := "ytkefmjdhbmmaaaa", sum := "2fc979e91dc6e16d6118e2768750a826ad28639a75ca99380ec75bf03086c904", func := "ropeway/ropewaylaw07.BookNames", spec := "bookNames", unfollowed := true, recurses := true, apart := false }
def BookNamesSaid : Prop := bookNamesRow.holds Try.pinned (OpenSpec.ofChange bookNamesSpec)

/-- ITS FALSE NEIGHBOUR: 'it returns false'. Refute it at one input. -/
def bookNamesWrong : ChangeSpec := { name := "bookNames", fn := fun _ => fun
  | [] => { results := [.lit (.bool false)], args := [] }
  | _ => none }
def BookNamesWrongFalsely : Prop := bookNamesRow.holds Try.pinned (OpenSpec.ofChange bookNamesWrong)

/-- 'ropewaylaw07.BookMerges': WHATEVER THE INPUT: true; the input reads as it did. -/
def bookMergesSpec : ChangeSpec := { name := "bookMerges", fn := fun _ => fun
  | [d1, d2] => { results := [.lit (.bool true)], args := [d1, d2] }
  | _ => none }
def bookMergesRow : OpenClaim := { program := "ytkefmjdhbmmaaaa", sum := "2fc979e91dc6e16d6118e2768750a826ad28639a75ca99380ec75bf03086c904", func := "ropeway/ropewaylaw07.BookMerges", spec := "bookMerges", inPlace := ["math.Float64bits"], unfollowed := true, recurses := true, apart := false }
def BookMergesSaid : Prop := bookMergesRow.holds Try.pinned (OpenSpec.ofChange bookMergesSpec)

/-- ITS FALSE NEIGHBOUR: 'it returns false'. Refute it at one input. -/
def bookMergesWrong : ChangeSpec := { name := "bookMerges", fn := fun _ => fun
  | [d1, d2] => { results := [.lit (.bool false)], args := [d1, d2] }
  | _ => none }
def BookMergesWrongFalsely : Prop := bookMergesRow.holds Try.pinned (OpenSpec.ofChange bookMergesWrong)

/-- 'ropewaylaw07.BookKeys': WHATEVER THE INPUT: true; the input reads as it did. -/
def bookKeysSpec : ChangeSpec := { name := "bookKeys", fn := fun _ => fun
  | [d1, d2, d3] => { results := [.lit (.bool true)], args := [d1, d2, d3] }
  | _ => none }
def bookKeysRow : OpenClaim := { program := "ytkefmjdhbmmaaaa", sum := "2fc979e91dc6e16d6118e2768750a826ad28639a75ca99380ec75bf03086c904", func := "ropeway/ropewaylaw07.BookKeys", spec := "bookKeys", inPlace := ["math.Float64bits"], unfollowed := true, recurses := true, apart := false }
def BookKeysSaid : Prop := bookKeysRow.holds Try.pinned (OpenSpec.ofChange bookKeysSpec)

/-- ITS FALSE NEIGHBOUR: 'it returns false'. Refute it at one input. -/
def bookKeysWrong : ChangeSpec := { name := "bookKeys", fn := fun _ => fun
  | [d1, d2, d3] => { results := [.lit (.bool false)], args := [d1, d2, d3] }
  | _ => none }
def BookKeysWrongFalsely : Prop := bookKeysRow.holds Try.pinned (OpenSpec.ofChange bookKeysWrong)

/-- 'ropewaylaw07.BookChecks': WHATEVER THE INPUT: true; the input reads as it did. -/
def bookChecksSpec : ChangeSpec := { name := "bookChecks", fn := fun _ => fun
  | [d1, d2, d3] => { results := [.lit (.bool true)], args := [d1, d2, d3] }
  | _ => none }
def bookChecksRow : OpenClaim := { program := "ytkefmjdhbmmaaaa", sum := "2fc979e91dc6e16d6118e2768750a826ad28639a75ca99380ec75bf03086c904", func := "ropeway/ropewaylaw07.BookChecks", spec := "bookChecks", inPlace := ["math.Float64bits"], unfollowed := true, recurses := true, apart := false }
def BookChecksSaid : Prop := bookChecksRow.holds Try.pinned (OpenSpec.ofChange bookChecksSpec)

/-- ITS FALSE NEIGHBOUR: 'it returns false'. Refute it at one input. -/
def bookChecksWrong : ChangeSpec := { name := "bookChecks", fn := fun _ => fun
  | [d1, d2, d3] => { results := [.lit (.bool false)], args := [d1, d2, d3] }
  | _ => none }
def BookChecksWrongFalsely : Prop := bookChecksRow.holds Try.pinned (OpenSpec.ofChange bookChecksWrong)

/-- 'ropewaylaw05.ViewTells': WHATEVER THE INPUT: true; the input reads as it did. -/
def viewTellsSpec : ChangeSpec := { name := "viewTells", fn := fun _ => fun
  | [d1, d2, d3] => { results := [.lit (.bool true)], args := [d1, d2, d3] }
  | _ => none }
def viewTellsRow : OpenClaim := { program := "ytkefmjdhbmmaaaa", sum := "2fc979e91dc6e16d6118e2768750a826ad28639a75ca99380ec75bf03086c904", func := "ropeway/ropewaylaw05.ViewTells", spec := "viewTells", apart := false }
def ViewTellsSaid : Prop := viewTellsRow.holds Try.pinned (OpenSpec.ofChange viewTellsSpec)

/-- ITS FALSE NEIGHBOUR: 'it returns false'. Refute it at one input. -/
def viewTellsWrong : ChangeSpec := { name := "viewTells", fn := fun _ => fun
  | [d1, d2, d3] => { results := [.lit (.bool false)], args := [d1, d2, d3] }
  | _ => none }
def ViewTellsWrongFalsely : Prop := viewTellsRow.holds Try.pinned (OpenSpec.ofChange viewTellsWrong)

/-- 'ropewaylaw05.ViewMeets': WHATEVER THE INPUT: true; the input reads as it did. -/
def viewMeetsSpec : ChangeSpec := { name := "viewMeets", fn := fun _ => fun
  | [d1, d2, d3] => { results := [.lit (.bool true)], args := [d1, d2, d3] }
  | _ => none }
def viewMeetsRow : OpenClaim := { program := "ytkefmjdhbmmaaaa", sum := "2fc979e91dc6e16d6118e2768750a826ad28639a75ca99380ec75bf03086c904", func := "ropeway/ropewaylaw05.ViewMeets", spec := "viewMeets", apart := false }
def ViewMeetsSaid : Prop := viewMeetsRow.holds Try.pinned (OpenSpec.ofChange viewMeetsSpec)

/-- ITS FALSE NEIGHBOUR: 'it returns false'. Refute it at one input. -/
def viewMeetsWrong : ChangeSpec := { name := "viewMeets", fn := fun _ => fun
  | [d1, d2, d3] => { results := [.lit (.bool false)], args := [d1, d2, d3] }
  | _ => none }
def ViewMeetsWrongFalsely : Prop := viewMeetsRow.holds Try.pinned (OpenSpec.ofChange viewMeetsWrong)

/-- 'ropewaylaw05.ViewHalves': WHATEVER THE INPUT: true; the input reads as it did. -/
def viewHalvesSpec : ChangeSpec := { name := "viewHalves", fn := fun _ => fun
  | [d1, d2] => { results := [.lit (.bool true)], args := [d1, d2] }
  | _ => none }
def viewHalvesRow : OpenClaim := { program := "ytkefmjdhbmmaaaa", sum := "2fc979e91dc6e16d6118e2768750a826ad28639a75ca99380ec75bf03086c904", func := "ropeway/ropewaylaw05.ViewHalves", spec := "viewHalves", apart := false }
def ViewHalvesSaid : Prop := viewHalvesRow.holds Try.pinned (OpenSpec.ofChange viewHalvesSpec)

/-- ITS FALSE NEIGHBOUR: 'it returns false'. Refute it at one input. -/
def viewHalvesWrong : ChangeSpec := { name := "viewHalves", fn := fun _ => fun
  | [d1, d2] => { results := [.lit (.bool false)], args := [d1, d2] }
  | _ => none }
def ViewHalvesWrongFalsely : Prop := viewHalvesRow.holds Try.pinned (OpenSpec.ofChange viewHalvesWrong)

/-- 'ropewaylaw07.BookTurns': WHATEVER THE INPUT: true; the input reads as it did. -/
def bookTurnsSpec : ChangeSpec := { name := "bookTurns", fn := fun _ => fun
  | [d1, d2, d3] => { results := [.lit (.bool true)], args := [d1, d2, d3] }
  | _ => none }
def bookTurnsRow : OpenClaim := { program := "ytkefmjdhbmmaaaa", sum := "2fc979e91dc6e16d6118e2768750a826ad28639a75ca99380ec75bf03086c904", func := "ropeway/ropewaylaw07.BookTurns", spec := "bookTurns", inPlace := ["math.Float64bits"], unfollowed := true, recurses := true, apart := false }
def BookTurnsSaid : Prop := bookTurnsRow.holds Try.pinned (OpenSpec.ofChange bookTurnsSpec)

/-- ITS FALSE NEIGHBOUR: 'it returns false'. Refute it at one input. -/
def bookTurnsWrong : ChangeSpec := { name := "bookTurns", fn := fun _ => fun
  | [d1, d2, d3] => { results := [.lit (.bool false)], args := [d1, d2, d3] }
  | _ => none }
def BookTurnsWrongFalsely : Prop := bookTurnsRow.holds Try.pinned (OpenSpec.ofChange bookTurnsWrong)

/-- 'ropewaylaw07.BookNews': WHATEVER THE INPUT: true; the input reads as it did. -/
def bookNewsSpec : ChangeSpec := { name := "bookNews", fn := fun _ => fun
  | [d1, d2] => { results := [.lit (.bool true)], args := [d1, d2] }
  | _ => none }
def bookNewsRow : OpenClaim := { program := "ytkefmjdhbmmaaaa", sum := "2fc979e91dc6e16d6118e2768750a826ad28639a75ca99380ec75bf03086c904", func := "ropeway/ropewaylaw07.BookNews", spec := "bookNews", inPlace := ["math.Float64bits"], unfollowed := true, recurses := true, apart := false }
def BookNewsSaid : Prop := bookNewsRow.holds Try.pinned (OpenSpec.ofChange bookNewsSpec)

/-- ITS FALSE NEIGHBOUR: 'it returns false'. Refute it at one input. -/
def bookNewsWrong : ChangeSpec := { name := "bookNews", fn := fun _ => fun
  | [d1, d2] => { results := [.lit (.bool false)], args := [d1, d2] }
  | _ => none }
def BookNewsWrongFalsely : Prop := bookNewsRow.holds Try.pinned (OpenSpec.ofChange bookNewsWrong)

/- THE SECOND FORM. 'bulk': how many values and letters a reading holds, each counted each time it is reached (what is shared counts as often as it is met; a slice's spare places count too). A statement '..UptoSaid' is the law's where the arguments, and the package variables that the reading takes, are together of bulk at most 1048576: NARROWER than '..Said'. Prove '..Said' where nothing that the law and all that it calls make is longer than what came in: it says more and counts as full. Else prove '..UptoSaid'. A law counts once. -/
mutual
def uptoBulk {H : Type} : DataW H → Nat
  | .lit (.string bytes) => bytes.length + 1
  | .lit _ => 1
  | .nil => 1
  | .ptr d => uptoBulk d + 1
  | .slice elems spare => uptoBulkAll elems + uptoBulkAll spare + 1
  | .agg parts => uptoBulkAll parts + 1
  | .iface _ d => uptoBulk d + 1
  | .map entries => uptoBulkEntries entries + 1
  | .held _ => 1
def uptoBulkAll {H : Type} : List (DataW H) → Nat
  | [] => 0
  | d :: r => uptoBulk d + uptoBulkAll r
def uptoBulkEntries {H : Type} : List (Lit × DataW H) → Nat
  | [] => 0
  | x :: r => uptoBulkEntry x + uptoBulkEntries r
def uptoBulkEntry {H : Type} : Lit × DataW H → Nat
  | (.string bytes, d) => bytes.length + uptoBulk d + 1
  | (_, d) => uptoBulk d + 1
 end
def uptoSmall : (H : Type) → List (DataW H) → Bool := fun _ ds => decide (uptoBulkAll ds ≤ 1048576)
def OpenSpec.upto (s : _root_.Go.ChangeSpec) : _root_.Go.OpenSpec := { _root_.Go.OpenSpec.ofChange s with cond := some uptoSmall }

/-- 'ropewaylaw07.BookNames', WHERE WHAT IT READS IS OF BULK AT MOST 1048576: true; the input reads as it did. -/
def bookNamesUptoRow : OpenClaim := { program := "ytkefmjdhbmmaaaa", sum := "2fc979e91dc6e16d6118e2768750a826ad28639a75ca99380ec75bf03086c904", func := "ropeway/ropewaylaw07.BookNames", spec := "bookNames", unfollowed := true, recurses := true, apart := false, narrowed := true }
def BookNamesUptoSaid : Prop := bookNamesUptoRow.holds Try.pinned (OpenSpec.upto bookNamesSpec)

/-- 'ropewaylaw07.BookMerges', WHERE WHAT IT READS IS OF BULK AT MOST 1048576: true; the input reads as it did. -/
def bookMergesUptoRow : OpenClaim := { program := "ytkefmjdhbmmaaaa", sum := "2fc979e91dc6e16d6118e2768750a826ad28639a75ca99380ec75bf03086c904", func := "ropeway/ropewaylaw07.BookMerges", spec := "bookMerges", inPlace := ["math.Float64bits"], unfollowed := true, recurses := true, apart := false, narrowed := true }
def BookMergesUptoSaid : Prop := bookMergesUptoRow.holds Try.pinned (OpenSpec.upto bookMergesSpec)

/-- 'ropewaylaw07.BookKeys', WHERE WHAT IT READS IS OF BULK AT MOST 1048576: true; the input reads as it did. -/
def bookKeysUptoRow : OpenClaim := { program := "ytkefmjdhbmmaaaa", sum := "2fc979e91dc6e16d6118e2768750a826ad28639a75ca99380ec75bf03086c904", func := "ropeway/ropewaylaw07.BookKeys", spec := "bookKeys", inPlace := ["math.Float64bits"], unfollowed := true, recurses := true, apart := false, narrowed := true }
def BookKeysUptoSaid : Prop := bookKeysUptoRow.holds Try.pinned (OpenSpec.upto bookKeysSpec)

/-- 'ropewaylaw07.BookChecks', WHERE WHAT IT READS IS OF BULK AT MOST 1048576: true; the input reads as it did. -/
def bookChecksUptoRow : OpenClaim := { program := "ytkefmjdhbmmaaaa", sum := "2fc979e91dc6e16d6118e2768750a826ad28639a75ca99380ec75bf03086c904", func := "ropeway/ropewaylaw07.BookChecks", spec := "bookChecks", inPlace := ["math.Float64bits"], unfollowed := true, recurses := true, apart := false, narrowed := true }
def BookChecksUptoSaid : Prop := bookChecksUptoRow.holds Try.pinned (OpenSpec.upto bookChecksSpec)

/-- 'ropewaylaw05.ViewTells', WHERE WHAT IT READS IS OF BULK AT MOST 1048576: true; the input reads as it did. -/
def viewTellsUptoRow : OpenClaim := { program := "ytkefmjdhbmmaaaa", sum := "2fc979e91dc6e16d6118e2768750a826ad28639a75ca99380ec75bf03086c904", func := "ropeway/ropewaylaw05.ViewTells", spec := "viewTells", apart := false, narrowed := true }
def ViewTellsUptoSaid : Prop := viewTellsUptoRow.holds Try.pinned (OpenSpec.upto viewTellsSpec)

/-- 'ropewaylaw05.ViewMeets', WHERE WHAT IT READS IS OF BULK AT MOST 1048576: true; the input reads as it did. -/
def viewMeetsUptoRow : OpenClaim := { program := "ytkefmjdhbmmaaaa", sum := "2fc979e91dc6e16d6118e2768750a826ad28639a75ca99380ec75bf03086c904", func := "ropeway/ropewaylaw05.ViewMeets", spec := "viewMeets", apart := false, narrowed := true }
def ViewMeetsUptoSaid : Prop := viewMeetsUptoRow.holds Try.pinned (OpenSpec.upto viewMeetsSpec)

/-- 'ropewaylaw05.ViewHalves', WHERE WHAT IT READS IS OF BULK AT MOST 1048576: true; the input reads as it did. -/
def viewHalvesUptoRow : OpenClaim := { program := "ytkefmjdhbmmaaaa", sum := "2fc979e91dc6e16d6118e2768750a826ad28639a75ca99380ec75bf03086c904", func := "ropeway/ropewaylaw05.ViewHalves", spec := "viewHalves", apart := false, narrowed := true }
def ViewHalvesUptoSaid : Prop := viewHalvesUptoRow.holds Try.pinned (OpenSpec.upto viewHalvesSpec)

/-- 'ropewaylaw07.BookTurns', WHERE WHAT IT READS IS OF BULK AT MOST 1048576: true; the input reads as it did. -/
def bookTurnsUptoRow : OpenClaim := { program := "ytkefmjdhbmmaaaa", sum := "2fc979e91dc6e16d6118e2768750a826ad28639a75ca99380ec75bf03086c904", func := "ropeway/ropewaylaw07.BookTurns", spec := "bookTurns", inPlace := ["math.Float64bits"], unfollowed := true, recurses := true, apart := false, narrowed := true }
def BookTurnsUptoSaid : Prop := bookTurnsUptoRow.holds Try.pinned (OpenSpec.upto bookTurnsSpec)

/-- 'ropewaylaw07.BookNews', WHERE WHAT IT READS IS OF BULK AT MOST 1048576: true; the input reads as it did. -/
def bookNewsUptoRow : OpenClaim := { program := "ytkefmjdhbmmaaaa", sum := "2fc979e91dc6e16d6118e2768750a826ad28639a75ca99380ec75bf03086c904", func := "ropeway/ropewaylaw07.BookNews", spec := "bookNews", inPlace := ["math.Float64bits"], unfollowed := true, recurses := true, apart := false, narrowed := true }
def BookNewsUptoSaid : Prop := bookNewsUptoRow.holds Try.pinned (OpenSpec.upto bookNewsSpec)

end Rows
end Go.Proofs.Ytkefmjdhbmmaaaa
