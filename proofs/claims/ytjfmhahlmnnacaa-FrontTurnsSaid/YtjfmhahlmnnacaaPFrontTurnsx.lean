/- Written by a program of this session (wip/tool/px.py) over the kit's print: what the code that the law FrontTurns reaches computes, function by function, and the law's row. -/
import Derived.Test.YtjfmhahlmnnacaaPFrontTurnsx0
import Derived.Test.YtjfmhahlmnnacaaPFrontTurnsx1
import Derived.Test.YtjfmhahlmnnacaaPFrontTurnsx2
import Derived.Test.YtjfmhahlmnnacaaPFrontTurnsx3
import Derived.Test.YtjfmhahlmnnacaaPFrontTurnsx4
import Derived.Test.YtjfmhahlmnnacaaPFrontTurnsx5
import Derived.Test.YtjfmhahlmnnacaaPFrontTurnsx6
import Derived.Test.YtjfmhahlmnnacaaPFrontTurnsx7
namespace Go.Proofs.Ytjfmhahlmnnacaa.PFrontTurns
open Go.RowKit Go.Proofs.YtjfmhahlmnnacaaX Go.Proofs.YtjfmhahlmnnacaaW.PrintWords Go.Proofs.YtjfmhahlmnnacaaW.PrintLast Go.Proofs.YtjfmhahlmnnacaaW.PrintMore
attribute [local go_sem] max2_int min2_int max_two min_two max_three min_three max_four min_four   -- for this text's walks alone
set_option linter.unusedVariables false
set_option linter.unusedSimpArgs false

attribute [local go_sem] px_nilq22
end Go.Proofs.Ytjfmhahlmnnacaa.PFrontTurns
