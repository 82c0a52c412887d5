/- Written by a program of this session (wip/tool/px.py) over the kit's print: what the code that the law ViewOut reaches computes, function by function, and the law's row. -/
import Derived.Test.YtophohbodmnpjaaPViewOutx0
import Derived.Test.YtophohbodmnpjaaPViewOutx1
import Derived.Test.YtophohbodmnpjaaPViewOutx2
import Derived.Test.YtophohbodmnpjaaPViewOutx3
import Derived.Test.YtophohbodmnpjaaPViewOutx4
import Derived.Test.YtophohbodmnpjaaPViewOutx5
import Derived.Test.YtophohbodmnpjaaPViewOutx6
namespace Go.Proofs.Ytophohbodmnpjaa.PViewOut
open Go.RowKit Go.Proofs.YtophohbodmnpjaaX Go.Proofs.YtophohbodmnpjaaW.PrintWords Go.Proofs.YtophohbodmnpjaaW.PrintLast Go.Proofs.YtophohbodmnpjaaW.PrintMore
attribute [local go_sem] max2_int min2_int max_two min_two max_three min_three max_four min_four   -- for this text's walks alone
set_option linter.unusedVariables false
set_option linter.unusedSimpArgs false

end Go.Proofs.Ytophohbodmnpjaa.PViewOut
