/- Written by a program of this session (wip/tool/px.py) over the kit's print: what the code that the law NumChain reaches computes, function by function, and the law's row. -/
import Derived.Test.YtnbjlcjlcjefjaaPNumChainx0
import Derived.Test.YtnbjlcjlcjefjaaPNumChainx1
import Derived.Test.YtnbjlcjlcjefjaaPNumChainx2
namespace Go.Proofs.Ytnbjlcjlcjefjaa.PNumChain
open Go.RowKit Go.Proofs.YtnbjlcjlcjefjaaX Go.Proofs.YtnbjlcjlcjefjaaW.PrintWords Go.Proofs.YtnbjlcjlcjefjaaW.PrintLast Go.Proofs.YtnbjlcjlcjefjaaW.PrintMore
attribute [local go_sem] max2_int min2_int max_two min_two max_three min_three max_four min_four   -- for this text's walks alone
set_option linter.unusedVariables false
set_option linter.unusedSimpArgs false

attribute [local go_sem] px_store_float px_neg_float px_call27 px_call31
end Go.Proofs.Ytnbjlcjlcjefjaa.PNumChain
