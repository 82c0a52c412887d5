/- Written by a program of this session (wip/tool/px.py) over the kit's print: what the code that the law ChangeCounts reaches computes, function by function, and the law's row. -/
import Derived.Test.YtbnhgckdplndfaaPChangeCountsx0
import Derived.Test.YtbnhgckdplndfaaPChangeCountsx1
import Derived.Test.YtbnhgckdplndfaaPChangeCountsx2
import Derived.Test.YtbnhgckdplndfaaPChangeCountsx3
namespace Go.Proofs.Ytbnhgckdplndfaa.PChangeCounts
open Go.RowKit Go.Proofs.YtbnhgckdplndfaaX Go.Proofs.YtbnhgckdplndfaaW.PrintWords Go.Proofs.YtbnhgckdplndfaaW.PrintLast Go.Proofs.YtbnhgckdplndfaaW.PrintMore
attribute [local go_sem] max2_int min2_int max_two min_two max_three min_three max_four min_four   -- for this text's walks alone
set_option linter.unusedVariables false
set_option linter.unusedSimpArgs false

end Go.Proofs.Ytbnhgckdplndfaa.PChangeCounts
