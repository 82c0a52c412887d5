/- Written by a program of this session (wip/tool/px.py) over the kit's print: what the code that the law ViewNames reaches computes, function by function, and the law's row. -/
import Derived.Test.YtophohbodmnpjaaPViewNamesx0
import Derived.Test.YtophohbodmnpjaaPViewNamesx1
import Derived.Test.YtophohbodmnpjaaPViewNamesx2
import Derived.Test.YtophohbodmnpjaaPViewNamesx3
import Derived.Test.YtophohbodmnpjaaPViewNamesx4
import Derived.Test.YtophohbodmnpjaaPViewNamesx5
namespace Go.Proofs.Ytophohbodmnpjaa.PViewNames
open Go.RowKit Go.Proofs.YtophohbodmnpjaaX Go.Proofs.YtophohbodmnpjaaW.PrintWords Go.Proofs.YtophohbodmnpjaaW.PrintLast Go.Proofs.YtophohbodmnpjaaW.PrintMore
attribute [local go_sem] max2_int min2_int max_two min_two max_three min_three max_four min_four   -- for this text's walks alone
set_option linter.unusedVariables false
set_option linter.unusedSimpArgs false

end Go.Proofs.Ytophohbodmnpjaa.PViewNames
