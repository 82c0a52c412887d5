/- Written by a program of this session (wip/tool/px.py) over the kit's print: what the code that the law ViewOrder reaches computes, function by function, and the law's row. -/
import Derived.Test.YtophohbodmnpjaaPViewOrderx0
import Derived.Test.YtophohbodmnpjaaPViewOrderx1
import Derived.Test.YtophohbodmnpjaaPViewOrderx2
import Derived.Test.YtophohbodmnpjaaPViewOrderx3
import Derived.Test.YtophohbodmnpjaaPViewOrderx4
import Derived.Test.YtophohbodmnpjaaPViewOrderx5
import Derived.Test.YtophohbodmnpjaaPViewOrderx6
import Derived.Test.YtophohbodmnpjaaPViewOrderx7
import Derived.Test.YtophohbodmnpjaaPViewOrderx8
namespace Go.Proofs.Ytophohbodmnpjaa.PViewOrder
open Go.RowKit Go.Proofs.YtophohbodmnpjaaX Go.Proofs.YtophohbodmnpjaaW.PrintWords Go.Proofs.YtophohbodmnpjaaW.PrintLast Go.Proofs.YtophohbodmnpjaaW.PrintMore
attribute [local go_sem] max2_int min2_int max_two min_two max_three min_three max_four min_four   -- for this text's walks alone
set_option linter.unusedVariables false
set_option linter.unusedSimpArgs false

end Go.Proofs.Ytophohbodmnpjaa.PViewOrder
