/- Written by a program of this session (wip/tool/px.py) over the kit's print: what the code that the law CellsNames reaches computes, function by function, and the law's row. -/
import Derived.Test.YtophohbodmnpjaaPCellsNamesx0
import Derived.Test.YtophohbodmnpjaaPCellsNamesx1
import Derived.Test.YtophohbodmnpjaaPCellsNamesx2
import Derived.Test.YtophohbodmnpjaaPCellsNamesx3
import Derived.Test.YtophohbodmnpjaaPCellsNamesx4
import Derived.Test.YtophohbodmnpjaaPCellsNamesx5
import Derived.Test.YtophohbodmnpjaaPCellsNamesx6
import Derived.Test.YtophohbodmnpjaaPCellsNamesx7
import Derived.Test.YtophohbodmnpjaaPCellsNamesx8
namespace Go.Proofs.Ytophohbodmnpjaa.PCellsNames
open Go.RowKit Go.Proofs.YtophohbodmnpjaaX Go.Proofs.YtophohbodmnpjaaW.PrintWords Go.Proofs.YtophohbodmnpjaaW.PrintLast Go.Proofs.YtophohbodmnpjaaW.PrintMore
attribute [local go_sem] max2_int min2_int max_two min_two max_three min_three max_four min_four   -- for this text's walks alone
set_option linter.unusedVariables false
set_option linter.unusedSimpArgs false

attribute [local go_sem] px_nilq36
end Go.Proofs.Ytophohbodmnpjaa.PCellsNames
