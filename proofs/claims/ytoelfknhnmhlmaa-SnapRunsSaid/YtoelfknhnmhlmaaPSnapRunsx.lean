/- Written by a program of this session (wip/tool/px.py) over the kit's print: what the code that the law SnapRuns reaches computes, function by function, and the law's row. -/
import Derived.Test.YtoelfknhnmhlmaaPSnapRunsx0
import Derived.Test.YtoelfknhnmhlmaaPSnapRunsx1
import Derived.Test.YtoelfknhnmhlmaaPSnapRunsx2
import Derived.Test.YtoelfknhnmhlmaaPSnapRunsx3
import Derived.Test.YtoelfknhnmhlmaaPSnapRunsx4
import Derived.Test.YtoelfknhnmhlmaaPSnapRunsx5
import Derived.Test.YtoelfknhnmhlmaaPSnapRunsx6
import Derived.Test.YtoelfknhnmhlmaaPSnapRunsx7
import Derived.Test.YtoelfknhnmhlmaaPSnapRunsx8
import Derived.Test.YtoelfknhnmhlmaaPSnapRunsx9
import Derived.Test.YtoelfknhnmhlmaaPSnapRunsx10
import Derived.Test.YtoelfknhnmhlmaaPSnapRunsx11
import Derived.Test.YtoelfknhnmhlmaaPSnapRunsx14
import Derived.Test.YtoelfknhnmhlmaaPSnapRunsx12
import Derived.Test.YtoelfknhnmhlmaaPSnapRunsx13
namespace Go.Proofs.Ytoelfknhnmhlmaa.PSnapRuns
open Go.RowKit Go.Proofs.YtoelfknhnmhlmaaX Go.Proofs.YtoelfknhnmhlmaaW.PrintWords Go.Proofs.YtoelfknhnmhlmaaW.PrintLast Go.Proofs.YtoelfknhnmhlmaaW.PrintMore
attribute [local go_sem] max2_int min2_int max_two min_two max_three min_three max_four min_four   -- for this text's walks alone
set_option linter.unusedVariables false
set_option linter.unusedSimpArgs false

attribute [local go_sem] px_nilq27
end Go.Proofs.Ytoelfknhnmhlmaa.PSnapRuns
