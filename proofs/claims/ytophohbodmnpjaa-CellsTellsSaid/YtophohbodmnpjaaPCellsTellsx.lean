/- Written by a program of this session (wip/tool/px.py) over the kit's print: what the code that the law CellsTells reaches computes, function by function, and the law's row. -/
import Derived.Test.YtophohbodmnpjaaPCellsTellsx0
import Derived.Test.YtophohbodmnpjaaPCellsTellsx1
import Derived.Test.YtophohbodmnpjaaPCellsTellsx2
import Derived.Test.YtophohbodmnpjaaPCellsTellsx3
import Derived.Test.YtophohbodmnpjaaPCellsTellsx4
import Derived.Test.YtophohbodmnpjaaPCellsTellsx5
import Derived.Test.YtophohbodmnpjaaPCellsTellsx6
import Derived.Test.YtophohbodmnpjaaPCellsTellsx7
import Derived.Test.YtophohbodmnpjaaPCellsTellsx8
import Derived.Test.YtophohbodmnpjaaPCellsTellsx9
import Derived.Test.YtophohbodmnpjaaPCellsTellsx10
import Derived.Test.YtophohbodmnpjaaPCellsTellsx11
import Derived.Test.YtophohbodmnpjaaPCellsTellsx12
import Derived.Test.YtophohbodmnpjaaPCellsTellsx13
namespace Go.Proofs.Ytophohbodmnpjaa.PCellsTells
open Go.RowKit Go.Proofs.YtophohbodmnpjaaX Go.Proofs.YtophohbodmnpjaaW.PrintWords Go.Proofs.YtophohbodmnpjaaW.PrintLast Go.Proofs.YtophohbodmnpjaaW.PrintMore
attribute [local go_sem] max2_int min2_int max_two min_two max_three min_three max_four min_four   -- for this text's walks alone
set_option linter.unusedVariables false
set_option linter.unusedSimpArgs false

attribute [local go_sem] px_nilq36
end Go.Proofs.Ytophohbodmnpjaa.PCellsTells
