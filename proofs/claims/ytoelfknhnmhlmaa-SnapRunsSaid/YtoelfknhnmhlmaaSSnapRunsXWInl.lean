/- words of the walk, of which only what this law uses is kept -/
import Derived.Test.YtoelfknhnmhlmaaSSnapRunsXWShort
import Derived.Test.YtoelfknhnmhlmaaSSnapRunsWShare
import Derived.Test.YtoelfknhnmhlmaaSSnapRunsXWArr
namespace Go.Proofs.YtoelfknhnmhlmaaX
open Go.RowKit Go.Proofs.YtoelfknhnmhlmaaW.PrintWords Go.Proofs.YtoelfknhnmhlmaaW.PrintLast Go.Proofs.YtoelfknhnmhlmaaW.PrintMore
set_option linter.unusedVariables false
section
variable {P : Program} {ops : Array Oper} {Q : Exit → Act → World → Prop}
theorem inl_back_ {rest : List Oper} {a : Act} {N : Option Tmp} {x : Value} {w' : World} (h : wpList P ops Q rest (a.put N x) w') : ∃ v, Ending.returned x = .returned v ∧ wpList P ops Q rest (a.put N v) w' := ⟨x, rfl, h⟩
end
theorem rv_ {α : Type} {d : Kd α} {e : Nat} {W0 W : World} {base : Nat} {ok : Nat → Prop} {v : Value} {xs : List α} (_ : Aside0 (Kd.V d e W0 base ok v xs)) (h : Kd.V d e W base ok v xs := by (with_reducible repeat (first | apply Kd.V_alloc | apply Kd.V_drewN | apply Kd.V_drew)); exact Aside0.out (by assumption)) : Kd.V d e W base ok v xs := h
theorem vr_ {α : Type} {d : Kd α} {e : Nat} {W : World} {base : Nat} {P M rest : Nat → Prop} {v : Value} {xs : List α} (h : d.R e W base (fun k => M k ∧ rest k) v xs) : Kd.V d e W base (fun k => (P k ∨ M k) ∧ rest k) v xs := Kd.V_mono (Kd.R_V h) (fun _ hk => ⟨.inr hk.1, hk.2⟩)
theorem vr0_ {α : Type} {d : Kd α} {e : Nat} {W : World} {base : Nat} {P M : Nat → Prop} {v : Value} {xs : List α} (h : d.R e W base M v xs) : Kd.V d e W base (fun k => P k ∨ M k) v xs := Kd.V_mono (Kd.R_V h) (fun _ hk => .inr hk)
end Go.Proofs.YtoelfknhnmhlmaaX

