/-
  No cell of these rows narrows 'for every input' (looked for: loops, veiled, ifaces, maps, wideKeys, modest, calm, conditions, laid).
  DERIVED. THE GIVEN ROWS OF THIS SEAT. 8 by the template 'for every input the law returns true; each argument reads behind the call as it read before'; 0 by the template 'total and deterministic' (their statements: YtnbjlcjlcjefjaaTotals.lean).
  GIVEN WITH THE SEED: the statements are not yours to turn. If you find one false, say at which input.
  Laid BY PROGRAM, IN A SANDBOX (cutbox-rows.mjs): the forced cells as the released guide's own fill.sh prints them over the translation 17fae61728dfeea2… (all of the seat's roots in one cut). By AI agents, Wed Nov 11 2026. No macro, syntax, notation, axiom, sorry.
-/
import Derived.Test.YtnbjlcjlcjefjaaChecked
import GoSem.Claim
import GoSem.ClaimJoined
import GoSem.ClaimMapViews
import Derived.JoinedTies
import Derived.KernelRfl
namespace Go.Proofs.Ytnbjlcjlcjefjaa
/- THE CELL 'sum', in the pinned program and in every row, IS THE sha256 OF THE DUMP (.gsa) THAT YtnbjlcjlcjefjaaProg.lean LOADS. Nothing in Lean hashes anything: it is a label: what it is worth is what the hold of that sum in a sandbox is worth. -/
noncomputable def Try.pinned : Pinned := { name := "ytnbjlcjlcjefjaa", sum := "17fae61728dfeea2f45059d76c6f23a0808f614783ea9864a652c4d0e1c83cb5", checked := Try.checked }
namespace Rows
def none {H : Type} : Left H := { results := [], args := [] }

/-- 'ropewaylaw01.NumOrder': WHATEVER THE INPUT: true; the input reads as it did. -/
def numOrderSpec : ChangeSpec := { name := "numOrder", fn := fun _ => fun
  | [d1, d2] => { results := [.lit (.bool true)], args := [d1, d2] }
  | _ => none }
def numOrderRow : OpenClaim := { program := "ytnbjlcjlcjefjaa", sum := "17fae61728dfeea2f45059d76c6f23a0808f614783ea9864a652c4d0e1c83cb5", func := "ropeway/ropewaylaw01.NumOrder", spec := "numOrder", inPlace := ["math.Float64frombits", "math.Float64bits"], apart := false }
def NumOrderSaid : Prop := numOrderRow.holds Try.pinned (OpenSpec.ofChange numOrderSpec)

/-- ITS FALSE NEIGHBOUR: 'it returns false'. Refute it at one input. -/
def numOrderWrong : ChangeSpec := { name := "numOrder", fn := fun _ => fun
  | [d1, d2] => { results := [.lit (.bool false)], args := [d1, d2] }
  | _ => none }
def NumOrderWrongFalsely : Prop := numOrderRow.holds Try.pinned (OpenSpec.ofChange numOrderWrong)

/-- 'ropewaylaw01.NumChain': WHATEVER THE INPUT: true; the input reads as it did. -/
def numChainSpec : ChangeSpec := { name := "numChain", fn := fun _ => fun
  | [d1, d2, d3] => { results := [.lit (.bool true)], args := [d1, d2, d3] }
  | _ => none }
def numChainRow : OpenClaim := { program := "ytnbjlcjlcjefjaa", sum := "17fae61728dfeea2f45059d76c6f23a0808f614783ea9864a652c4d0e1c83cb5", func := "ropeway/ropewaylaw01.NumChain", spec := "numChain", inPlace := ["math.Float64bits", "math.Float64frombits"], apart := false }
def NumChainSaid : Prop := numChainRow.holds Try.pinned (OpenSpec.ofChange numChainSpec)

/-- ITS FALSE NEIGHBOUR: 'it returns false'. Refute it at one input. -/
def numChainWrong : ChangeSpec := { name := "numChain", fn := fun _ => fun
  | [d1, d2, d3] => { results := [.lit (.bool false)], args := [d1, d2, d3] }
  | _ => none }
def NumChainWrongFalsely : Prop := numChainRow.holds Try.pinned (OpenSpec.ofChange numChainWrong)

/-- 'ropewaylaw01.NumBits': WHATEVER THE INPUT: true; the input reads as it did. -/
def numBitsSpec : ChangeSpec := { name := "numBits", fn := fun _ => fun
  | [d1, d2] => { results := [.lit (.bool true)], args := [d1, d2] }
  | _ => none }
def numBitsRow : OpenClaim := { program := "ytnbjlcjlcjefjaa", sum := "17fae61728dfeea2f45059d76c6f23a0808f614783ea9864a652c4d0e1c83cb5", func := "ropeway/ropewaylaw01.NumBits", spec := "numBits", inPlace := ["math.Float64frombits", "math.Float64bits"], apart := false }
def NumBitsSaid : Prop := numBitsRow.holds Try.pinned (OpenSpec.ofChange numBitsSpec)

/-- ITS FALSE NEIGHBOUR: 'it returns false'. Refute it at one input. -/
def numBitsWrong : ChangeSpec := { name := "numBits", fn := fun _ => fun
  | [d1, d2] => { results := [.lit (.bool false)], args := [d1, d2] }
  | _ => none }
def NumBitsWrongFalsely : Prop := numBitsRow.holds Try.pinned (OpenSpec.ofChange numBitsWrong)

/-- 'ropewaylaw01.NumBack': WHATEVER THE INPUT: true; the input reads as it did. -/
def numBackSpec : ChangeSpec := { name := "numBack", fn := fun _ => fun
  | [d] => { results := [.lit (.bool true)], args := [d] }
  | _ => none }
def numBackRow : OpenClaim := { program := "ytnbjlcjlcjefjaa", sum := "17fae61728dfeea2f45059d76c6f23a0808f614783ea9864a652c4d0e1c83cb5", func := "ropeway/ropewaylaw01.NumBack", spec := "numBack", inPlace := ["math.Float64bits", "math.Float64frombits"], apart := false }
def NumBackSaid : Prop := numBackRow.holds Try.pinned (OpenSpec.ofChange numBackSpec)

/-- ITS FALSE NEIGHBOUR: 'it returns false'. Refute it at one input. -/
def numBackWrong : ChangeSpec := { name := "numBack", fn := fun _ => fun
  | [d] => { results := [.lit (.bool false)], args := [d] }
  | _ => none }
def NumBackWrongFalsely : Prop := numBackRow.holds Try.pinned (OpenSpec.ofChange numBackWrong)

/-- 'ropewaylaw01.NumSigns': WHATEVER THE INPUT: true; the input reads as it did. -/
def numSignsSpec : ChangeSpec := { name := "numSigns", fn := fun _ => fun
  | [d1, d2] => { results := [.lit (.bool true)], args := [d1, d2] }
  | _ => none }
def numSignsRow : OpenClaim := { program := "ytnbjlcjlcjefjaa", sum := "17fae61728dfeea2f45059d76c6f23a0808f614783ea9864a652c4d0e1c83cb5", func := "ropeway/ropewaylaw01.NumSigns", spec := "numSigns", inPlace := ["math.Float64bits", "math.Float64frombits"], apart := false }
def NumSignsSaid : Prop := numSignsRow.holds Try.pinned (OpenSpec.ofChange numSignsSpec)

/-- ITS FALSE NEIGHBOUR: 'it returns false'. Refute it at one input. -/
def numSignsWrong : ChangeSpec := { name := "numSigns", fn := fun _ => fun
  | [d1, d2] => { results := [.lit (.bool false)], args := [d1, d2] }
  | _ => none }
def NumSignsWrongFalsely : Prop := numSignsRow.holds Try.pinned (OpenSpec.ofChange numSignsWrong)

/-- 'ropewaylaw01.NumNames': WHATEVER THE INPUT: true; the input reads as it did. -/
def numNamesSpec : ChangeSpec := { name := "numNames", fn := fun _ => fun
  | [] => { results := [.lit (.bool true)], args := [] }
  | _ => none }
def numNamesRow : OpenClaim := { program := "ytnbjlcjlcjefjaa", sum := "17fae61728dfeea2f45059d76c6f23a0808f614783ea9864a652c4d0e1c83cb5", func := "ropeway/ropewaylaw01.NumNames", spec := "numNames", inPlace := ["math.Float64frombits", "math.Float64bits"], apart := false }
def NumNamesSaid : Prop := numNamesRow.holds Try.pinned (OpenSpec.ofChange numNamesSpec)

/-- ITS FALSE NEIGHBOUR: 'it returns false'. Refute it at one input. -/
def numNamesWrong : ChangeSpec := { name := "numNames", fn := fun _ => fun
  | [] => { results := [.lit (.bool false)], args := [] }
  | _ => none }
def NumNamesWrongFalsely : Prop := numNamesRow.holds Try.pinned (OpenSpec.ofChange numNamesWrong)

/-- 'ropewaylaw01.NumNext': WHATEVER THE INPUT: true; the input reads as it did. -/
def numNextSpec : ChangeSpec := { name := "numNext", fn := fun _ => fun
  | [d1, d2] => { results := [.lit (.bool true)], args := [d1, d2] }
  | _ => none }
def numNextRow : OpenClaim := { program := "ytnbjlcjlcjefjaa", sum := "17fae61728dfeea2f45059d76c6f23a0808f614783ea9864a652c4d0e1c83cb5", func := "ropeway/ropewaylaw01.NumNext", spec := "numNext", inPlace := ["math.Float64bits", "math.Float64frombits"], apart := false }
def NumNextSaid : Prop := numNextRow.holds Try.pinned (OpenSpec.ofChange numNextSpec)

/-- ITS FALSE NEIGHBOUR: 'it returns false'. Refute it at one input. -/
def numNextWrong : ChangeSpec := { name := "numNext", fn := fun _ => fun
  | [d1, d2] => { results := [.lit (.bool false)], args := [d1, d2] }
  | _ => none }
def NumNextWrongFalsely : Prop := numNextRow.holds Try.pinned (OpenSpec.ofChange numNextWrong)

/-- 'ropewaylaw01.NumTops': WHATEVER THE INPUT: true; the input reads as it did. -/
def numTopsSpec : ChangeSpec := { name := "numTops", fn := fun _ => fun
  | [d1, d2] => { results := [.lit (.bool true)], args := [d1, d2] }
  | _ => none }
def numTopsRow : OpenClaim := { program := "ytnbjlcjlcjefjaa", sum := "17fae61728dfeea2f45059d76c6f23a0808f614783ea9864a652c4d0e1c83cb5", func := "ropeway/ropewaylaw01.NumTops", spec := "numTops", inPlace := ["math.Float64frombits", "math.Float64bits"], apart := false }
def NumTopsSaid : Prop := numTopsRow.holds Try.pinned (OpenSpec.ofChange numTopsSpec)

/-- ITS FALSE NEIGHBOUR: 'it returns false'. Refute it at one input. -/
def numTopsWrong : ChangeSpec := { name := "numTops", fn := fun _ => fun
  | [d1, d2] => { results := [.lit (.bool false)], args := [d1, d2] }
  | _ => none }
def NumTopsWrongFalsely : Prop := numTopsRow.holds Try.pinned (OpenSpec.ofChange numTopsWrong)

/- THE SECOND FORM. 'bulk': how many values and letters a reading holds, each counted each time it is reached (what is shared counts as often as it is met; a slice's spare places count too). A statement '..UptoSaid' is the law's where the arguments, and the package variables that the reading takes, are together of bulk at most 1048576: NARROWER than '..Said'. Prove '..Said' where nothing that the law and all that it calls make is longer than what came in: it says more and counts as full. Else prove '..UptoSaid'. A law counts once. -/
mutual
def uptoBulk {H : Type} : DataW H → Nat
  | .lit (.string bytes) => bytes.length + 1
  | .lit _ => 1
  | .nil => 1
  | .ptr d => uptoBulk d + 1
  | .slice elems spare => uptoBulkAll elems + uptoBulkAll spare + 1
  | .agg parts => uptoBulkAll parts + 1
  | .iface _ d => uptoBulk d + 1
  | .map entries => uptoBulkEntries entries + 1
  | .held _ => 1
def uptoBulkAll {H : Type} : List (DataW H) → Nat
  | [] => 0
  | d :: r => uptoBulk d + uptoBulkAll r
def uptoBulkEntries {H : Type} : List (Lit × DataW H) → Nat
  | [] => 0
  | x :: r => uptoBulkEntry x + uptoBulkEntries r
def uptoBulkEntry {H : Type} : Lit × DataW H → Nat
  | (.string bytes, d) => bytes.length + uptoBulk d + 1
  | (_, d) => uptoBulk d + 1
 end
def uptoSmall : (H : Type) → List (DataW H) → Bool := fun _ ds => decide (uptoBulkAll ds ≤ 1048576)
def OpenSpec.upto (s : _root_.Go.ChangeSpec) : _root_.Go.OpenSpec := { _root_.Go.OpenSpec.ofChange s with cond := some uptoSmall }

/-- 'ropewaylaw01.NumOrder', WHERE WHAT IT READS IS OF BULK AT MOST 1048576: true; the input reads as it did. -/
def numOrderUptoRow : OpenClaim := { program := "ytnbjlcjlcjefjaa", sum := "17fae61728dfeea2f45059d76c6f23a0808f614783ea9864a652c4d0e1c83cb5", func := "ropeway/ropewaylaw01.NumOrder", spec := "numOrder", inPlace := ["math.Float64frombits", "math.Float64bits"], apart := false, narrowed := true }
def NumOrderUptoSaid : Prop := numOrderUptoRow.holds Try.pinned (OpenSpec.upto numOrderSpec)

/-- 'ropewaylaw01.NumChain', WHERE WHAT IT READS IS OF BULK AT MOST 1048576: true; the input reads as it did. -/
def numChainUptoRow : OpenClaim := { program := "ytnbjlcjlcjefjaa", sum := "17fae61728dfeea2f45059d76c6f23a0808f614783ea9864a652c4d0e1c83cb5", func := "ropeway/ropewaylaw01.NumChain", spec := "numChain", inPlace := ["math.Float64bits", "math.Float64frombits"], apart := false, narrowed := true }
def NumChainUptoSaid : Prop := numChainUptoRow.holds Try.pinned (OpenSpec.upto numChainSpec)

/-- 'ropewaylaw01.NumBits', WHERE WHAT IT READS IS OF BULK AT MOST 1048576: true; the input reads as it did. -/
def numBitsUptoRow : OpenClaim := { program := "ytnbjlcjlcjefjaa", sum := "17fae61728dfeea2f45059d76c6f23a0808f614783ea9864a652c4d0e1c83cb5", func := "ropeway/ropewaylaw01.NumBits", spec := "numBits", inPlace := ["math.Float64frombits", "math.Float64bits"], apart := false, narrowed := true }
def NumBitsUptoSaid : Prop := numBitsUptoRow.holds Try.pinned (OpenSpec.upto numBitsSpec)

/-- 'ropewaylaw01.NumBack', WHERE WHAT IT READS IS OF BULK AT MOST 1048576: true; the input reads as it did. -/
def numBackUptoRow : OpenClaim := { program := "ytnbjlcjlcjefjaa", sum := "17fae61728dfeea2f45059d76c6f23a0808f614783ea9864a652c4d0e1c83cb5", func := "ropeway/ropewaylaw01.NumBack", spec := "numBack", inPlace := ["math.Float64bits", "math.Float64frombits"], apart := false, narrowed := true }
def NumBackUptoSaid : Prop := numBackUptoRow.holds Try.pinned (OpenSpec.upto numBackSpec)

/-- 'ropewaylaw01.NumSigns', WHERE WHAT IT READS IS OF BULK AT MOST 1048576: true; the input reads as it did. -/
def numSignsUptoRow : OpenClaim := { program := "ytnbjlcjlcjefjaa", sum := "17fae61728dfeea2f45059d76c6f23a0808f614783ea9864a652c4d0e1c83cb5", func := "ropeway/ropewaylaw01.NumSigns", spec := "numSigns", inPlace := ["math.Float64bits", "math.Float64frombits"], apart := false, narrowed := true }
def NumSignsUptoSaid : Prop := numSignsUptoRow.holds Try.pinned (OpenSpec.upto numSignsSpec)

/-- 'ropewaylaw01.NumNames', WHERE WHAT IT READS IS OF BULK AT MOST 1048576: true; the input reads as it did. -/
def numNamesUptoRow : OpenClaim := { program := "ytnbjlcjlcjefjaa", sum := "17fae61728dfeea2f45059d76c6f23a0808f614783ea9864a652c4d0e1c83cb5", func := "ropeway/ropewaylaw01.NumNames", spec := "numNames", inPlace := ["math.Float64frombits", "math.Float64bits"], apart := false, narrowed := true }
def NumNamesUptoSaid : Prop := numNamesUptoRow.holds Try.pinned (OpenSpec.upto numNamesSpec)

/-- 'ropewaylaw01.NumNext', WHERE WHAT IT READS IS OF BULK AT MOST 1048576: true; the input reads as it did. -/
def numNextUptoRow : OpenClaim := { program := "ytnbjlcjlcjefjaa", sum := "17fae61728dfeea2f45059d76c6f23a0808f614783ea9864a652c4d0e1c83cb5", func := "ropeway/ropewaylaw01.NumNext", spec := "numNext", inPlace := ["math.Float64bits", "math.Float64frombits"], apart := false, narrowed := true }
def NumNextUptoSaid : Prop := numNextUptoRow.holds Try.pinned (OpenSpec.upto numNextSpec)

/-- 'ropewaylaw01.NumTops', WHERE WHAT IT READS IS OF BULK AT MOST 1048576: true; the input reads as it did. -/
def numTopsUptoRow : OpenClaim := { program := "ytnbjlcjlcjefjaa", sum := "17fae61728dfeea2f45059d76c6f23a0808f614783ea9864a652c4d0e1c83cb5", func := "ropeway/ropewaylaw01.NumTops", spec := "numTops", inPlace := ["math.Float64frombits", "math.Float64bits"], apart := false, narrowed := true }
def NumTopsUptoSaid : Prop := numTopsUptoRow.holds Try.pinned (OpenSpec.upto numTopsSpec)

end Rows
end Go.Proofs.Ytnbjlcjlcjefjaa
