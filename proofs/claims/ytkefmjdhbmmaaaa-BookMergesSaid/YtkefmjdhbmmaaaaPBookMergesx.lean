/- Written by a program of this session (wip/tool/px.py) over the kit's print: what the code that the law BookMerges reaches computes, function by function, and the law's row. -/
import Derived.Test.YtkefmjdhbmmaaaaPBookMergesx0
import Derived.Test.YtkefmjdhbmmaaaaPBookMergesx1
import Derived.Test.YtkefmjdhbmmaaaaPBookMergesx2
import Derived.Test.YtkefmjdhbmmaaaaPBookMergesx3
import Derived.Test.YtkefmjdhbmmaaaaPBookMergesx4
import Derived.Test.YtkefmjdhbmmaaaaPBookMergesx5
import Derived.Test.YtkefmjdhbmmaaaaPBookMergesx6
import Derived.Test.YtkefmjdhbmmaaaaPBookMergesx7
import Derived.Test.YtkefmjdhbmmaaaaPBookMergesx8
namespace Go.Proofs.Ytkefmjdhbmmaaaa.PBookMerges
open Go.RowKit Go.Proofs.YtkefmjdhbmmaaaaX Go.Proofs.YtkefmjdhbmmaaaaW.PrintWords Go.Proofs.YtkefmjdhbmmaaaaW.PrintLast Go.Proofs.YtkefmjdhbmmaaaaW.PrintMore
attribute [local go_sem] max2_int min2_int max_two min_two max_three min_three max_four min_four   -- for this text's walks alone
set_option linter.unusedVariables false
set_option linter.unusedSimpArgs false

attribute [local go_sem] px_store_float px_neg_float px_call59
attribute [local go_sem] px_field26_1
end Go.Proofs.Ytkefmjdhbmmaaaa.PBookMerges
