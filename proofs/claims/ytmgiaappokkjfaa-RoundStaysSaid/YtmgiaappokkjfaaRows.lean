/-
  No cell of these rows narrows 'for every input' (looked for: loops, veiled, ifaces, maps, wideKeys, modest, calm, conditions, laid).
  DERIVED. THE GIVEN ROWS OF THIS SEAT. 6 by the template 'for every input the law returns true; each argument reads behind the call as it read before'; 0 by the template 'total and deterministic' (their statements: YtmgiaappokkjfaaTotals.lean).
  GIVEN WITH THE SEED: the statements are not yours to turn. If you find one false, say at which input.
  Laid BY PROGRAM, IN A SANDBOX (cutbox-rows.mjs): the forced cells as the released guide's own fill.sh prints them over the translation 0b364c16040cadf2… (all of the seat's roots in one cut). By AI agents, Wed Nov 11 2026. No macro, syntax, notation, axiom, sorry.
-/
import Derived.Test.YtmgiaappokkjfaaChecked
import GoSem.Claim
import GoSem.ClaimJoined
import GoSem.ClaimMapViews
import Derived.JoinedTies
import Derived.KernelRfl
namespace Go.Proofs.Ytmgiaappokkjfaa
/- THE CELL 'sum', in the pinned program and in every row, IS THE sha256 OF THE DUMP (.gsa) THAT YtmgiaappokkjfaaProg.lean LOADS. Nothing in Lean hashes anything: it is a label: what it is worth is what the hold of that sum in a sandbox is worth. -/
noncomputable def Try.pinned : Pinned := { name := "ytmgiaappokkjfaa", sum := "0b364c16040cadf2fc3b999c9bdc42cfe3d40cfb3bd5e3a97c0056dc29639ab0", checked := Try.checked }
namespace Rows
def none {H : Type} : Left H := { results := [], args := [] }

/-- 'ropewaylaw14.RoundStays': WHATEVER THE INPUT: true; the input reads as it did. -/
def roundStaysSpec : ChangeSpec := { name := "roundStays", fn := fun _ => fun
  | [d1, d2] => { results := [.lit (.bool true)], args := [d1, d2] }
  | _ => none }
def roundStaysRow : OpenClaim := { program := "ytmgiaappokkjfaa", sum := "0b364c16040cadf2fc3b999c9bdc42cfe3d40cfb3bd5e3a97c0056dc29639ab0", func := "ropeway/ropewaylaw14.RoundStays", spec := "roundStays", unfollowed := true, recurses := true, apart := false }
def RoundStaysSaid : Prop := roundStaysRow.holds Try.pinned (OpenSpec.ofChange roundStaysSpec)

/-- ITS FALSE NEIGHBOUR: 'it returns false'. Refute it at one input. -/
def roundStaysWrong : ChangeSpec := { name := "roundStays", fn := fun _ => fun
  | [d1, d2] => { results := [.lit (.bool false)], args := [d1, d2] }
  | _ => none }
def RoundStaysWrongFalsely : Prop := roundStaysRow.holds Try.pinned (OpenSpec.ofChange roundStaysWrong)

/-- 'ropewaylaw14.RoundNames': WHATEVER THE INPUT: true; the input reads as it did. -/
def roundNamesSpec : ChangeSpec := { name := "roundNames", fn := fun _ => fun
  | [] => { results := [.lit (.bool true)], args := [] }
  | _ => none }
def roundNamesRow : OpenClaim := { program := "ytmgiaappokkjfaa", sum := "0b364c16040cadf2fc3b999c9bdc42cfe3d40cfb3bd5e3a97c0056dc29639ab0", func := "ropeway/ropewaylaw14.RoundNames", spec := "roundNames", unfollowed := true, recurses := true, apart := false }
def RoundNamesSaid : Prop := roundNamesRow.holds Try.pinned (OpenSpec.ofChange roundNamesSpec)

/-- ITS FALSE NEIGHBOUR: 'it returns false'. Refute it at one input. -/
def roundNamesWrong : ChangeSpec := { name := "roundNames", fn := fun _ => fun
  | [] => { results := [.lit (.bool false)], args := [] }
  | _ => none }
def RoundNamesWrongFalsely : Prop := roundNamesRow.holds Try.pinned (OpenSpec.ofChange roundNamesWrong)

/-- 'ropewaylaw14.RoundRuns': WHATEVER THE INPUT: true; the input reads as it did. -/
def roundRunsSpec : ChangeSpec := { name := "roundRuns", fn := fun _ => fun
  | [d1, d2] => { results := [.lit (.bool true)], args := [d1, d2] }
  | _ => none }
def roundRunsRow : OpenClaim := { program := "ytmgiaappokkjfaa", sum := "0b364c16040cadf2fc3b999c9bdc42cfe3d40cfb3bd5e3a97c0056dc29639ab0", func := "ropeway/ropewaylaw14.RoundRuns", spec := "roundRuns", inPlace := ["math.Float64bits"], unfollowed := true, recurses := true, apart := false }
def RoundRunsSaid : Prop := roundRunsRow.holds Try.pinned (OpenSpec.ofChange roundRunsSpec)

/-- ITS FALSE NEIGHBOUR: 'it returns false'. Refute it at one input. -/
def roundRunsWrong : ChangeSpec := { name := "roundRuns", fn := fun _ => fun
  | [d1, d2] => { results := [.lit (.bool false)], args := [d1, d2] }
  | _ => none }
def RoundRunsWrongFalsely : Prop := roundRunsRow.holds Try.pinned (OpenSpec.ofChange roundRunsWrong)

/-- 'ropewaylaw14.RoundAlone': WHATEVER THE INPUT: true; the input reads as it did. -/
def roundAloneSpec : ChangeSpec := { name := "roundAlone", fn := fun _ => fun
  | [d1, d2, d3] => { results := [.lit (.bool true)], args := [d1, d2, d3] }
  | _ => none }
def roundAloneRow : OpenClaim := { program := "ytmgiaappokkjfaa", sum := "0b364c16040cadf2fc3b999c9bdc42cfe3d40cfb3bd5e3a97c0056dc29639ab0", func := "ropeway/ropewaylaw14.RoundAlone", spec := "roundAlone", inPlace := ["math.Float64bits"], unfollowed := true, recurses := true, apart := false }
def RoundAloneSaid : Prop := roundAloneRow.holds Try.pinned (OpenSpec.ofChange roundAloneSpec)

/-- ITS FALSE NEIGHBOUR: 'it returns false'. Refute it at one input. -/
def roundAloneWrong : ChangeSpec := { name := "roundAlone", fn := fun _ => fun
  | [d1, d2, d3] => { results := [.lit (.bool false)], args := [d1, d2, d3] }
  | _ => none }
def RoundAloneWrongFalsely : Prop := roundAloneRow.holds Try.pinned (OpenSpec.ofChange roundAloneWrong)

/-- 'ropewaylaw14.RoundTurns': WHATEVER THE INPUT: true; the input reads as it did. -/
def roundTurnsSpec : ChangeSpec := { name := "roundTurns", fn := fun _ => fun
  | [d1, d2] => { results := [.lit (.bool true)], args := [d1, d2] }
  | _ => none }
def roundTurnsRow : OpenClaim := { program := "ytmgiaappokkjfaa", sum := "0b364c16040cadf2fc3b999c9bdc42cfe3d40cfb3bd5e3a97c0056dc29639ab0", func := "ropeway/ropewaylaw14.RoundTurns", spec := "roundTurns", inPlace := ["math.Float64bits"], unfollowed := true, recurses := true, apart := false }
def RoundTurnsSaid : Prop := roundTurnsRow.holds Try.pinned (OpenSpec.ofChange roundTurnsSpec)

/-- ITS FALSE NEIGHBOUR: 'it returns false'. Refute it at one input. -/
def roundTurnsWrong : ChangeSpec := { name := "roundTurns", fn := fun _ => fun
  | [d1, d2] => { results := [.lit (.bool false)], args := [d1, d2] }
  | _ => none }
def RoundTurnsWrongFalsely : Prop := roundTurnsRow.holds Try.pinned (OpenSpec.ofChange roundTurnsWrong)

/-- 'ropewaylaw14.RoundTells': WHATEVER THE INPUT: true; the input reads as it did. -/
def roundTellsSpec : ChangeSpec := { name := "roundTells", fn := fun _ => fun
  | [d1, d2] => { results := [.lit (.bool true)], args := [d1, d2] }
  | _ => none }
def roundTellsRow : OpenClaim := { program := "ytmgiaappokkjfaa", sum := "0b364c16040cadf2fc3b999c9bdc42cfe3d40cfb3bd5e3a97c0056dc29639ab0", func := "ropeway/ropewaylaw14.RoundTells", spec := "roundTells", unfollowed := true, recurses := true, apart := false }
def RoundTellsSaid : Prop := roundTellsRow.holds Try.pinned (OpenSpec.ofChange roundTellsSpec)

/-- ITS FALSE NEIGHBOUR: 'it returns false'. Refute it at one input. -/
def roundTellsWrong : ChangeSpec := { name := "roundTells", fn := fun _ => fun
  | [d1, d2] => { results := [.lit (.bool false)], args := [d1, d2] }
  | _ => none }
def RoundTellsWrongFalsely : Prop := roundTellsRow.holds Try.pinned (OpenSpec.ofChange roundTellsWrong)

/- THE SECOND FORM. 'bulk': how many values and letters a reading holds, each counted each time it is reached (what is shared counts as often as it is met; a slice's spare places count too). A statement '..UptoSaid' is the law's where the arguments, and the package variables that the reading takes, are together of bulk at most 1048576: NARROWER than '..Said'. Prove '..Said' where nothing that the law and all that it calls make is longer than what came in: it says more and counts as full. Else prove '..UptoSaid'. A law counts once. -/
mutual
def uptoBulk {H : Type} : DataW H → Nat
  | .lit (.string bytes) => bytes.length + 1
  | .lit _ => 1
  | .nil => 1
  | .ptr d => uptoBulk d + 1
  | .slice elems spare => uptoBulkAll elems + uptoBulkAll spare + 1
  | .agg parts => uptoBulkAll parts + 1
  | .iface _ d => uptoBulk d + 1
  | .map entries => uptoBulkEntries entries + 1
  | .held _ => 1
def uptoBulkAll {H : Type} : List (DataW H) → Nat
  | [] => 0
  | d :: r => uptoBulk d + uptoBulkAll r
def uptoBulkEntries {H : Type} : List (Lit × DataW H) → Nat
  | [] => 0
  | x :: r => uptoBulkEntry x + uptoBulkEntries r
def uptoBulkEntry {H : Type} : Lit × DataW H → Nat
  | (.string bytes, d) => bytes.length + uptoBulk d + 1
  | (_, d) => uptoBulk d + 1
 end
def uptoSmall : (H : Type) → List (DataW H) → Bool := fun _ ds => decide (uptoBulkAll ds ≤ 1048576)
def OpenSpec.upto (s : _root_.Go.ChangeSpec) : _root_.Go.OpenSpec := { _root_.Go.OpenSpec.ofChange s with cond := some uptoSmall }

/-- 'ropewaylaw14.RoundStays', WHERE WHAT IT READS IS OF BULK AT MOST 1048576: true; the input reads as it did. -/
def roundStaysUptoRow : OpenClaim := { program := "ytmgiaappokkjfaa", sum := "0b364c16040cadf2fc3b999c9bdc42cfe3d40cfb3bd5e3a97c0056dc29639ab0", func := "ropeway/ropewaylaw14.RoundStays", spec := "roundStays", unfollowed := true, recurses := true, apart := false, narrowed := true }
def RoundStaysUptoSaid : Prop := roundStaysUptoRow.holds Try.pinned (OpenSpec.upto roundStaysSpec)

/-- 'ropewaylaw14.RoundNames', WHERE WHAT IT READS IS OF BULK AT MOST 1048576: true; the input reads as it did. -/
def roundNamesUptoRow : OpenClaim := { program := "ytmgiaappokkjfaa", sum := "0b364c16040cadf2fc3b999c9bdc42cfe3d40cfb3bd5e3a97c0056dc29639ab0", func := "ropeway/ropewaylaw14.RoundNames", spec := "roundNames", unfollowed := true, recurses := true, apart := false, narrowed := true }
def RoundNamesUptoSaid : Prop := roundNamesUptoRow.holds Try.pinned (OpenSpec.upto roundNamesSpec)

/-- 'ropewaylaw14.RoundRuns', WHERE WHAT IT READS IS OF BULK AT MOST 1048576: true; the input reads as it did. -/
def roundRunsUptoRow : OpenClaim := { program := "ytmgiaappokkjfaa", sum := "0b364c16040cadf2fc3b999c9bdc42cfe3d40cfb3bd5e3a97c0056dc29639ab0", func := "ropeway/ropewaylaw14.RoundRuns", spec := "roundRuns", inPlace := ["math.Float64bits"], unfollowed := true, recurses := true, apart := false, narrowed := true }
def RoundRunsUptoSaid : Prop := roundRunsUptoRow.holds Try.pinned (OpenSpec.upto roundRunsSpec)

/-- 'ropewaylaw14.RoundAlone', WHERE WHAT IT READS IS OF BULK AT MOST 1048576: true; the input reads as it did. -/
def roundAloneUptoRow : OpenClaim := { program := "ytmgiaappokkjfaa", sum := "0b364c16040cadf2fc3b999c9bdc42cfe3d40cfb3bd5e3a97c0056dc29639ab0", func := "ropeway/ropewaylaw14.RoundAlone", spec := "roundAlone", inPlace := ["math.Float64bits"], unfollowed := true, recurses := true, apart := false, narrowed := true }
def RoundAloneUptoSaid : Prop := roundAloneUptoRow.holds Try.pinned (OpenSpec.upto roundAloneSpec)

/-- 'ropewaylaw14.RoundTurns', WHERE WHAT IT READS IS OF BULK AT MOST 1048576: true; the input reads as it did. -/
def roundTurnsUptoRow : OpenClaim := { program := "ytmgiaappokkjfaa", sum := "0b364c16040cadf2fc3b999c9bdc42cfe3d40cfb3bd5e3a97c0056dc29639ab0", func := "ropeway/ropewaylaw14.RoundTurns", spec := "roundTurns", inPlace := ["math.Float64bits"], unfollowed := true, recurses := true, apart := false, narrowed := true }
def RoundTurnsUptoSaid : Prop := roundTurnsUptoRow.holds Try.pinned (OpenSpec.upto roundTurnsSpec)

/-- 'ropewaylaw14.RoundTells', WHERE WHAT IT READS IS OF BULK AT MOST 1048576: true; the input reads as it did. -/
def roundTellsUptoRow : OpenClaim := { program := "ytmgiaappokkjfaa", sum := "0b364c16040cadf2fc3b999c9bdc42cfe3d40cfb3bd5e3a97c0056dc29639ab0", func := "ropeway/ropewaylaw14.RoundTells", spec := "roundTells", unfollowed := true, recurses := true, apart := false, narrowed := true }
def RoundTellsUptoSaid : Prop := roundTellsUptoRow.holds Try.pinned (OpenSpec.upto roundTellsSpec)

end Rows
end Go.Proofs.Ytmgiaappokkjfaa
