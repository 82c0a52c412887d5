/- Written by a program of this session (wip/tool/px.py) over the kit's print: what the code that the law FrontAims reaches computes, function by function, and the law's row. -/
import Derived.Test.YtjfmhahlmnnacaaPFrontAimsx0
import Derived.Test.YtjfmhahlmnnacaaPFrontAimsx1
import Derived.Test.YtjfmhahlmnnacaaPFrontAimsx2
import Derived.Test.YtjfmhahlmnnacaaPFrontAimsx3
import Derived.Test.YtjfmhahlmnnacaaPFrontAimsx4
import Derived.Test.YtjfmhahlmnnacaaPFrontAimsx5
import Derived.Test.YtjfmhahlmnnacaaPFrontAimsx6
import Derived.Test.YtjfmhahlmnnacaaPFrontAimsx7
namespace Go.Proofs.Ytjfmhahlmnnacaa.PFrontAims
open Go.RowKit Go.Proofs.YtjfmhahlmnnacaaX Go.Proofs.YtjfmhahlmnnacaaW.PrintWords Go.Proofs.YtjfmhahlmnnacaaW.PrintLast Go.Proofs.YtjfmhahlmnnacaaW.PrintMore
attribute [local go_sem] max2_int min2_int max_two min_two max_three min_three max_four min_four   -- for this text's walks alone
set_option linter.unusedVariables false
set_option linter.unusedSimpArgs false

attribute [local go_sem] px_nilq22
end Go.Proofs.Ytjfmhahlmnnacaa.PFrontAims
