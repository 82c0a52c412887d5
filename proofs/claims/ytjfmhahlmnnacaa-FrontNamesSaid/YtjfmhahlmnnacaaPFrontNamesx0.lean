/- Written by a program of this session (wip/tool/px.py) over the kit's print: what the code that the law FrontNames reaches computes, function by function, and the law's row. -/
import Derived.Test.YtjfmhahlmnnacaaProg
import Derived.Below
import Derived.Deep.Draws
import Derived.Deep.AppendLies
import Derived.Maps.AppendAt
import Derived.OwnWalk
import Derived.Laws.BytesArg
import Derived.Laws.MakeOwn
import Derived.Laws.OwnMore
import Derived.Deep.OwnRows
import Derived.Tactics
import Derived.Lib.ConvBytes
import Derived.Laws.Slices
import Derived.WalkKit
import Derived.KernelRfl
import Derived.RowKit3
import Derived.Deep.LoopGhost
import Derived.Deep.QuietTactic
import Derived.BigQuiet
import Derived.WideLaws
import Derived.Deep.DeepCutAuto
import Derived.Deep.CutBlock
import Derived.Deep.RegionHeld3
import Derived.Laws.Rows
import Derived.Lib.AppendStr
import Derived.ArgAppend
import Derived.Laws.IdiomCopy
import Derived.OrdersHeld
import Derived.Laws.BitsLemmas
import Derived.RowKit
import Derived.Shelf.Spec.SlicesInsertGrow
import Derived.Test.YtjfmhahlmnnacaaWWords
import Derived.Test.YtjfmhahlmnnacaaWLast
import Derived.Test.YtjfmhahlmnnacaaWTab
import Derived.Test.YtjfmhahlmnnacaaWFour
import Derived.Test.YtjfmhahlmnnacaaWQPut
import Derived.Test.YtjfmhahlmnnacaaWApart
import Derived.Test.YtjfmhahlmnnacaaWArr
import Derived.Test.YtjfmhahlmnnacaaWZeros
import Derived.Test.YtjfmhahlmnnacaaWFoot
import Derived.Test.YtjfmhahlmnnacaaWKept
import Derived.Test.YtjfmhahlmnnacaaWShare
import Derived.Test.YtjfmhahlmnnacaaWN
import Derived.Test.YtjfmhahlmnnacaaWFootNe
import Derived.Test.YtjfmhahlmnnacaaWAt
import Derived.Test.YtjfmhahlmnnacaaWEqStruct
import Derived.Test.YtjfmhahlmnnacaaWRepsOne
import Derived.Test.YtjfmhahlmnnacaaWInv
import Derived.Test.YtjfmhahlmnnacaaWInvWords
import Derived.Test.YtjfmhahlmnnacaaWGuard
import Derived.Test.YtjfmhahlmnnacaaWNEv
import Derived.Test.YtjfmhahlmnnacaaWMore
import Derived.Test.YtjfmhahlmnnacaaXWArr
import Derived.Test.YtjfmhahlmnnacaaXWClear
import Derived.Test.YtjfmhahlmnnacaaXWFloat
import Derived.Test.YtjfmhahlmnnacaaXWFn
import Derived.Test.YtjfmhahlmnnacaaXWShort
namespace Go.Proofs.Ytjfmhahlmnnacaa.PFrontNames
open Go.RowKit Go.Proofs.YtjfmhahlmnnacaaX Go.Proofs.YtjfmhahlmnnacaaW.PrintWords Go.Proofs.YtjfmhahlmnnacaaW.PrintLast Go.Proofs.YtjfmhahlmnnacaaW.PrintMore
attribute [local go_sem] max2_int min2_int max_two min_two max_three min_three max_four min_four   -- for this text's walks alone
set_option linter.unusedVariables false
set_option linter.unusedSimpArgs false



def errW : Option Int → Value
  | none => .nilIface
  | some c => .iface 0 (.int .i64 c)
theorem errW_none : errW none = .nilIface := rfl
theorem errW_some (c : Int) : errW (some c) = .iface 0 (.int .i64 c) := rfl

theorem info3 : (Try.prog.info? 3).map (fun i => (i.zero, i.size, i.bytes)) = some (some (.int .i64 0), 1, 8) := by kernel_rfl
theorem info24 : (Try.prog.info? 24).map (fun i => (i.zero, i.size, i.bytes)) = some (some (.agg #[(.int .i64 0), (.int .i64 0)]), 2, 16) := by kernel_rfl
-- the values' own types
/-! #### struct type 24 -/
structure S24 where
  f0 : Int
  f1 : Int
def z24 : S24 := ⟨(0 : Int), (0 : Int)⟩
def k24 : Kd S24 := Kd.iso (Kd.pair (Kd.int .i64) (Kd.int .i64)) (fun x : S24 => (x.f0, x.f1))
theorem k24_open {w : World} {x : S24} {cs : List Value} (h : k24.K w x cs) : cs = [.int .i64 x.f0, .int .i64 x.f1] := by
  obtain ⟨_, _, rfl, rfl, rfl⟩ := h
  exact rfl
theorem k24_openM {w : World} {base : Nat} {ok : Nat → Prop} {x : S24} {cs : List Value} (h : k24.M w base ok x cs) : cs = [.int .i64 x.f0, .int .i64 x.f1] := by
  obtain ⟨_, _, rfl, rfl, rfl⟩ := h
  exact rfl
theorem k24_mk (w : World) (x : S24)  : k24.K w x [.int .i64 x.f0, .int .i64 x.f1] := ⟨[.int .i64 x.f0], [.int .i64 x.f1], rfl, rfl, rfl⟩
theorem k24_mkM (w : World) (base : Nat) (ok : Nat → Prop) (x : S24)  : k24.M w base ok x [.int .i64 x.f0, .int .i64 x.f1] := ⟨[.int .i64 x.f0], [.int .i64 x.f1], rfl, rfl, rfl⟩
def rd_T24 (xs : List S24) (i : Int) : S24 := xs.getD i.toNat z24
theorem at_T24 {w : World} {A : Option Addr} {n : Nat} {xs : List S24} (h : Kd.C k24 w A n xs) (i : Int) (h0 : 0 ≤ i) (h1 : i < n) : ∃ ad , A = some ad ∧ w.cell? (ad.add (i.toNat * 2)) = some (.int .i64 (rd_T24 xs i).f0) ∧ w.cell? ⟨(ad.add (i.toNat * 2)).block, (ad.add (i.toNat * 2)).off + 1, none⟩ = some (.int .i64 (rd_T24 xs i).f1) := by
  obtain ⟨ad, c, e, _, hK, hc0⟩ := Kd.C_get h z24 i h0 h1
  have hc : ∀ j u, c[j]? = some u → w.cell? (ad.add (i.toNat * 2 + j)) = some u := hc0
  obtain rfl := k24_open hK
  exact ⟨ad, e, hc 0 _ rfl, by rw [← add_field _ _ 1 (by omega)]; exact hc 1 _ rfl⟩

theorem px_nilq22 : ∀ (A_ : Option Addr) (n c : Nat) (w : World), (binOp .eql 22 (.slice A_ n c) (.slice none 0 0)).run Try.prog w = .ok (.bool A_.isNone) w := fun A_ n c w => by cases A_ <;> kernel_rfl
end Go.Proofs.Ytjfmhahlmnnacaa.PFrontNames
