/- Written by a program of this session (wip/tool/px.py) over the kit's print: what the code that the law BookTurns reaches computes, function by function, and the law's row. -/
import Derived.Test.YtkefmjdhbmmaaaaPBookTurnsx0
import Derived.Test.YtkefmjdhbmmaaaaPBookTurnsx1
import Derived.Test.YtkefmjdhbmmaaaaPBookTurnsx2
import Derived.Test.YtkefmjdhbmmaaaaPBookTurnsx3
import Derived.Test.YtkefmjdhbmmaaaaPBookTurnsx4
import Derived.Test.YtkefmjdhbmmaaaaPBookTurnsx5
namespace Go.Proofs.Ytkefmjdhbmmaaaa.PBookTurns
open Go.RowKit Go.Proofs.YtkefmjdhbmmaaaaX Go.Proofs.YtkefmjdhbmmaaaaW.PrintWords Go.Proofs.YtkefmjdhbmmaaaaW.PrintLast Go.Proofs.YtkefmjdhbmmaaaaW.PrintMore
attribute [local go_sem] max2_int min2_int max_two min_two max_three min_three max_four min_four   -- for this text's walks alone
set_option linter.unusedVariables false
set_option linter.unusedSimpArgs false

attribute [local go_sem] px_store_float px_neg_float px_call59
attribute [local go_sem] px_field26_1
end Go.Proofs.Ytkefmjdhbmmaaaa.PBookTurns
