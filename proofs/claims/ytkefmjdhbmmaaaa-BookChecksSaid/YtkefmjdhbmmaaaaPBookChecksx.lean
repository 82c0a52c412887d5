/- Written by a program of this session (wip/tool/px.py) over the kit's print: what the code that the law BookChecks reaches computes, function by function, and the law's row. -/
import Derived.Test.YtkefmjdhbmmaaaaPBookChecksx0
import Derived.Test.YtkefmjdhbmmaaaaPBookChecksx1
import Derived.Test.YtkefmjdhbmmaaaaPBookChecksx2
import Derived.Test.YtkefmjdhbmmaaaaPBookChecksx3
import Derived.Test.YtkefmjdhbmmaaaaPBookChecksx4
import Derived.Test.YtkefmjdhbmmaaaaPBookChecksx5
import Derived.Test.YtkefmjdhbmmaaaaPBookChecksx6
namespace Go.Proofs.Ytkefmjdhbmmaaaa.PBookChecks
open Go.RowKit Go.Proofs.YtkefmjdhbmmaaaaX Go.Proofs.YtkefmjdhbmmaaaaW.PrintWords Go.Proofs.YtkefmjdhbmmaaaaW.PrintLast Go.Proofs.YtkefmjdhbmmaaaaW.PrintMore
attribute [local go_sem] max2_int min2_int max_two min_two max_three min_three max_four min_four   -- for this text's walks alone
set_option linter.unusedVariables false
set_option linter.unusedSimpArgs false

attribute [local go_sem] px_store_float px_neg_float px_call59
end Go.Proofs.Ytkefmjdhbmmaaaa.PBookChecks
