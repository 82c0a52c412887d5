/- Written by a program of this session (wip/tool/px.py) over the kit's print: what the code that the law CellsChanges reaches computes, function by function, and the law's row. -/
import Derived.Test.YtophohbodmnpjaaPCellsChangesx0
import Derived.Test.YtophohbodmnpjaaPCellsChangesx1
import Derived.Test.YtophohbodmnpjaaPCellsChangesx2
import Derived.Test.YtophohbodmnpjaaPCellsChangesx3
import Derived.Test.YtophohbodmnpjaaPCellsChangesx4
import Derived.Test.YtophohbodmnpjaaPCellsChangesx5
import Derived.Test.YtophohbodmnpjaaPCellsChangesx6
import Derived.Test.YtophohbodmnpjaaPCellsChangesx7
import Derived.Test.YtophohbodmnpjaaPCellsChangesx8
import Derived.Test.YtophohbodmnpjaaPCellsChangesx9
namespace Go.Proofs.Ytophohbodmnpjaa.PCellsChanges
open Go.RowKit Go.Proofs.YtophohbodmnpjaaX Go.Proofs.YtophohbodmnpjaaW.PrintWords Go.Proofs.YtophohbodmnpjaaW.PrintLast Go.Proofs.YtophohbodmnpjaaW.PrintMore
attribute [local go_sem] max2_int min2_int max_two min_two max_three min_three max_four min_four   -- for this text's walks alone
set_option linter.unusedVariables false
set_option linter.unusedSimpArgs false

attribute [local go_sem] px_nilq36
end Go.Proofs.Ytophohbodmnpjaa.PCellsChanges
