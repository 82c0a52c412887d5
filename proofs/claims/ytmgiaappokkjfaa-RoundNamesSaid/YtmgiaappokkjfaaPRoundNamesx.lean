/- Written by a program of this session (wip/tool/px.py) over the kit's print: what the code that the law RoundNames reaches computes, function by function, and the law's row. -/
import Derived.Test.YtmgiaappokkjfaaPRoundNamesx0
import Derived.Test.YtmgiaappokkjfaaPRoundNamesx1
import Derived.Test.YtmgiaappokkjfaaPRoundNamesx2
import Derived.Test.YtmgiaappokkjfaaPRoundNamesx3
import Derived.Test.YtmgiaappokkjfaaPRoundNamesx4
import Derived.Test.YtmgiaappokkjfaaPRoundNamesx5
import Derived.Test.YtmgiaappokkjfaaPRoundNamesx6
import Derived.Test.YtmgiaappokkjfaaPRoundNamesx7
import Derived.Test.YtmgiaappokkjfaaPRoundNamesx8
import Derived.Test.YtmgiaappokkjfaaPRoundNamesx9
import Derived.Test.YtmgiaappokkjfaaPRoundNamesx10
import Derived.Test.YtmgiaappokkjfaaPRoundNamesx11
namespace Go.Proofs.Ytmgiaappokkjfaa.PRoundNames
open Go.RowKit Go.Proofs.YtmgiaappokkjfaaX Go.Proofs.YtmgiaappokkjfaaW.PrintWords Go.Proofs.YtmgiaappokkjfaaW.PrintLast Go.Proofs.YtmgiaappokkjfaaW.PrintMore
attribute [local go_sem] max2_int min2_int max_two min_two max_three min_three max_four min_four   -- for this text's walks alone
set_option linter.unusedVariables false
set_option linter.unusedSimpArgs false

attribute [local go_sem] px_store_float px_neg_float
attribute [local go_sem] px_eqarr67 px_nilq24 px_nilq25
end Go.Proofs.Ytmgiaappokkjfaa.PRoundNames
