/- Written by a program of this session (wip/tool/px.py) over the kit's print: what the code that the law PastNames reaches computes, function by function, and the law's row. -/
import Derived.Test.YtmenkbdaabjojaaPPastNamesx0
import Derived.Test.YtmenkbdaabjojaaPPastNamesx1
import Derived.Test.YtmenkbdaabjojaaPPastNamesx2
import Derived.Test.YtmenkbdaabjojaaPPastNamesx3
import Derived.Test.YtmenkbdaabjojaaPPastNamesx4
import Derived.Test.YtmenkbdaabjojaaPPastNamesx5
import Derived.Test.YtmenkbdaabjojaaPPastNamesx6
import Derived.Test.YtmenkbdaabjojaaPPastNamesx7
import Derived.Test.YtmenkbdaabjojaaPPastNamesx8
import Derived.Test.YtmenkbdaabjojaaPPastNamesx9
import Derived.Test.YtmenkbdaabjojaaPPastNamesx10
import Derived.Test.YtmenkbdaabjojaaPPastNamesx11
import Derived.Test.YtmenkbdaabjojaaPPastNamesx12
import Derived.Test.YtmenkbdaabjojaaPPastNamesx13
namespace Go.Proofs.Ytmenkbdaabjojaa.PPastNames
open Go.RowKit Go.Proofs.YtmenkbdaabjojaaX Go.Proofs.YtmenkbdaabjojaaW.PrintWords Go.Proofs.YtmenkbdaabjojaaW.PrintLast Go.Proofs.YtmenkbdaabjojaaW.PrintMore
attribute [local go_sem] max2_int min2_int max_two min_two max_three min_three max_four min_four   -- for this text's walks alone
set_option linter.unusedVariables false
set_option linter.unusedSimpArgs false

attribute [local go_sem] px_store_float px_neg_float px_call40
end Go.Proofs.Ytmenkbdaabjojaa.PPastNames
