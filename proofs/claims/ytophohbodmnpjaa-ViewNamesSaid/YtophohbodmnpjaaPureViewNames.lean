/- The pure statement of the law ViewNames: of nothing all is alike, and none are enough. -/
import Derived.Test.YtophohbodmnpjaaPViewNamesx
import Derived.Test.YtophohbodmnpjaaXPure
import Derived.Test.YtophohbodmnpjaaXOpen
import Derived.Sort.AssemblyPlain
namespace Go.Proofs.Ytophohbodmnpjaa.Pure
open Go.RowKit Go.Proofs.Ytophohbodmnpjaa.PViewNames Go.Proofs.YtophohbodmnpjaaW.PrintWords Go.Proofs.YtophohbodmnpjaaW.PrintLast Go.Proofs.YtophohbodmnpjaaW.PrintMore Go.Proofs.YtophohbodmnpjaaX
set_option linter.unusedVariables false
set_option linter.unusedSimpArgs false
abbrev V := S25
theorem ViewNames : ropewaylaw05_ViewNames.Pure := by
  have alive : Ev (fun k => ropewaylaw05_viewAlive.f k) true := Ev.closed ropewaylaw05_viewAlive.mono 60 (by decide +kernel)
  have hall : Ev (fun k => ropewaylaw05_ViewNames.f k) true := by
    unfold ropewaylaw05_ViewNames.f
    refine Ev.bind alive (Ev.ite_pos rfl ?_)
    refine Ev.bind_all (a := true) ?_ (Ev.ite_pos rfl ?_)
    · unfold view_Alike.f
      rw [if_pos (by decide)]
      congr 1
      unfold hv_adj
      refine decide_eq_true fun j h => ?_
      rw [hv_pdq_size] at h
      exact absurd h (Nat.not_lt_zero _)
    · refine Ev.bind (a := (0, 0)) (Ev.all fun k => rfl) (Ev.ite_pos rfl ?_)
      refine Ev.bind (a := false) (Ev.closed (view_Enough.mono _ _ _) 20 (by decide +kernel)) (Ev.ite_neg (by simp) ?_)
      exact Ev.all fun k => by decide +kernel
  exact hall.rounds

end Go.Proofs.Ytophohbodmnpjaa.Pure
