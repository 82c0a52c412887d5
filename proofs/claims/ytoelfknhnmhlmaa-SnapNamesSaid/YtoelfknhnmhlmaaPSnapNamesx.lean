/- Written by a program of this session (wip/tool/px.py) over the kit's print: what the code that the law SnapNames reaches computes, function by function, and the law's row. -/
import Derived.Test.YtoelfknhnmhlmaaPSnapNamesx0
import Derived.Test.YtoelfknhnmhlmaaPSnapNamesx1
import Derived.Test.YtoelfknhnmhlmaaPSnapNamesx2
import Derived.Test.YtoelfknhnmhlmaaPSnapNamesx3
import Derived.Test.YtoelfknhnmhlmaaPSnapNamesx4
import Derived.Test.YtoelfknhnmhlmaaPSnapNamesx5
namespace Go.Proofs.Ytoelfknhnmhlmaa.PSnapNames
open Go.RowKit Go.Proofs.YtoelfknhnmhlmaaX Go.Proofs.YtoelfknhnmhlmaaW.PrintWords Go.Proofs.YtoelfknhnmhlmaaW.PrintLast Go.Proofs.YtoelfknhnmhlmaaW.PrintMore
attribute [local go_sem] max2_int min2_int max_two min_two max_three min_three max_four min_four   -- for this text's walks alone
set_option linter.unusedVariables false
set_option linter.unusedSimpArgs false

attribute [local go_sem] px_nilq27
end Go.Proofs.Ytoelfknhnmhlmaa.PSnapNames
