/- Written by a program of this session (wip/tool/px.py) over the kit's print: what the code that the law PastSources reaches computes, function by function, and the law's row. -/
import Derived.Test.YtmenkbdaabjojaaPPastSourcesx0
import Derived.Test.YtmenkbdaabjojaaPPastSourcesx1
import Derived.Test.YtmenkbdaabjojaaPPastSourcesx2
import Derived.Test.YtmenkbdaabjojaaPPastSourcesx3
import Derived.Test.YtmenkbdaabjojaaPPastSourcesx4
import Derived.Test.YtmenkbdaabjojaaPPastSourcesx5
import Derived.Test.YtmenkbdaabjojaaPPastSourcesx6
import Derived.Test.YtmenkbdaabjojaaPPastSourcesx7
import Derived.Test.YtmenkbdaabjojaaPPastSourcesx8
import Derived.Test.YtmenkbdaabjojaaPPastSourcesx9
import Derived.Test.YtmenkbdaabjojaaPPastSourcesx10
import Derived.Test.YtmenkbdaabjojaaPPastSourcesx11
import Derived.Test.YtmenkbdaabjojaaPPastSourcesx12
import Derived.Test.YtmenkbdaabjojaaPPastSourcesx13
import Derived.Test.YtmenkbdaabjojaaPPastSourcesx14
namespace Go.Proofs.Ytmenkbdaabjojaa.PPastSources
open Go.RowKit Go.Proofs.YtmenkbdaabjojaaX Go.Proofs.YtmenkbdaabjojaaW.PrintWords Go.Proofs.YtmenkbdaabjojaaW.PrintLast Go.Proofs.YtmenkbdaabjojaaW.PrintMore
attribute [local go_sem] max2_int min2_int max_two min_two max_three min_three max_four min_four   -- for this text's walks alone
set_option linter.unusedVariables false
set_option linter.unusedSimpArgs false

attribute [local go_sem] px_store_float px_neg_float px_call40
end Go.Proofs.Ytmenkbdaabjojaa.PPastSources
