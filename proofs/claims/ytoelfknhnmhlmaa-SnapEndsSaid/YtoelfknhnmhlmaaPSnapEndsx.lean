/- Written by a program of this session (wip/tool/px.py) over the kit's print: what the code that the law SnapEnds reaches computes, function by function, and the law's row. -/
import Derived.Test.YtoelfknhnmhlmaaPSnapEndsx0
import Derived.Test.YtoelfknhnmhlmaaPSnapEndsx1
import Derived.Test.YtoelfknhnmhlmaaPSnapEndsx2
import Derived.Test.YtoelfknhnmhlmaaPSnapEndsx3
import Derived.Test.YtoelfknhnmhlmaaPSnapEndsx4
import Derived.Test.YtoelfknhnmhlmaaPSnapEndsx5
import Derived.Test.YtoelfknhnmhlmaaPSnapEndsx6
import Derived.Test.YtoelfknhnmhlmaaPSnapEndsx7
import Derived.Test.YtoelfknhnmhlmaaPSnapEndsx8
import Derived.Test.YtoelfknhnmhlmaaPSnapEndsx9
import Derived.Test.YtoelfknhnmhlmaaPSnapEndsx10
import Derived.Test.YtoelfknhnmhlmaaPSnapEndsx11
namespace Go.Proofs.Ytoelfknhnmhlmaa.PSnapEnds
open Go.RowKit Go.Proofs.YtoelfknhnmhlmaaX Go.Proofs.YtoelfknhnmhlmaaW.PrintWords Go.Proofs.YtoelfknhnmhlmaaW.PrintLast Go.Proofs.YtoelfknhnmhlmaaW.PrintMore
attribute [local go_sem] max2_int min2_int max_two min_two max_three min_three max_four min_four   -- for this text's walks alone
set_option linter.unusedVariables false
set_option linter.unusedSimpArgs false

attribute [local go_sem] px_nilq27
end Go.Proofs.Ytoelfknhnmhlmaa.PSnapEnds
