/- Written by a program of this session (wip/tool/px.py) over the kit's print: what the code that the law CellsFirst reaches computes, function by function, and the law's row. -/
import Derived.Test.YtophohbodmnpjaaPCellsFirstx0
import Derived.Test.YtophohbodmnpjaaPCellsFirstx1
import Derived.Test.YtophohbodmnpjaaPCellsFirstx2
import Derived.Test.YtophohbodmnpjaaPCellsFirstx3
import Derived.Test.YtophohbodmnpjaaPCellsFirstx4
import Derived.Test.YtophohbodmnpjaaPCellsFirstx5
import Derived.Test.YtophohbodmnpjaaPCellsFirstx6
import Derived.Test.YtophohbodmnpjaaPCellsFirstx7
import Derived.Test.YtophohbodmnpjaaPCellsFirstx8
import Derived.Test.YtophohbodmnpjaaPCellsFirstx9
import Derived.Test.YtophohbodmnpjaaPCellsFirstx10
namespace Go.Proofs.Ytophohbodmnpjaa.PCellsFirst
open Go.RowKit Go.Proofs.YtophohbodmnpjaaX Go.Proofs.YtophohbodmnpjaaW.PrintWords Go.Proofs.YtophohbodmnpjaaW.PrintLast Go.Proofs.YtophohbodmnpjaaW.PrintMore
attribute [local go_sem] max2_int min2_int max_two min_two max_three min_three max_four min_four   -- for this text's walks alone
set_option linter.unusedVariables false
set_option linter.unusedSimpArgs false

attribute [local go_sem] px_nilq36
end Go.Proofs.Ytophohbodmnpjaa.PCellsFirst
