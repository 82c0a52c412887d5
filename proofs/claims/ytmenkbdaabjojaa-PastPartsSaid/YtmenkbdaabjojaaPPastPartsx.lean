/- Written by a program of this session (wip/tool/px.py) over the kit's print: what the code that the law PastParts reaches computes, function by function, and the law's row. -/
import Derived.Test.YtmenkbdaabjojaaPPastPartsx0
import Derived.Test.YtmenkbdaabjojaaPPastPartsx1
import Derived.Test.YtmenkbdaabjojaaPPastPartsx2
import Derived.Test.YtmenkbdaabjojaaPPastPartsx3
import Derived.Test.YtmenkbdaabjojaaPPastPartsx4
import Derived.Test.YtmenkbdaabjojaaPPastPartsx5
import Derived.Test.YtmenkbdaabjojaaPPastPartsx6
import Derived.Test.YtmenkbdaabjojaaPPastPartsx7
import Derived.Test.YtmenkbdaabjojaaPPastPartsx8
import Derived.Test.YtmenkbdaabjojaaPPastPartsx9
import Derived.Test.YtmenkbdaabjojaaPPastPartsx10
import Derived.Test.YtmenkbdaabjojaaPPastPartsx11
import Derived.Test.YtmenkbdaabjojaaPPastPartsx12
import Derived.Test.YtmenkbdaabjojaaPPastPartsx13
namespace Go.Proofs.Ytmenkbdaabjojaa.PPastParts
open Go.RowKit Go.Proofs.YtmenkbdaabjojaaX Go.Proofs.YtmenkbdaabjojaaW.PrintWords Go.Proofs.YtmenkbdaabjojaaW.PrintLast Go.Proofs.YtmenkbdaabjojaaW.PrintMore
attribute [local go_sem] max2_int min2_int max_two min_two max_three min_three max_four min_four   -- for this text's walks alone
set_option linter.unusedVariables false
set_option linter.unusedSimpArgs false

attribute [local go_sem] px_store_float px_neg_float px_call40
end Go.Proofs.Ytmenkbdaabjojaa.PPastParts
