/- Written by a program of this session (wip/tool/px.py) over the kit's print: what the code that the law RoundStays reaches computes, function by function, and the law's row. -/
import Derived.Test.YtmgiaappokkjfaaPRoundStaysx0
import Derived.Test.YtmgiaappokkjfaaPRoundStaysx1
import Derived.Test.YtmgiaappokkjfaaPRoundStaysx2
import Derived.Test.YtmgiaappokkjfaaPRoundStaysx3
import Derived.Test.YtmgiaappokkjfaaPRoundStaysx4
import Derived.Test.YtmgiaappokkjfaaPRoundStaysx5
import Derived.Test.YtmgiaappokkjfaaPRoundStaysx6
import Derived.Test.YtmgiaappokkjfaaPRoundStaysx7
import Derived.Test.YtmgiaappokkjfaaPRoundStaysx8
import Derived.Test.YtmgiaappokkjfaaPRoundStaysx9
import Derived.Test.YtmgiaappokkjfaaPRoundStaysx10
import Derived.Test.YtmgiaappokkjfaaPRoundStaysx11
import Derived.Test.YtmgiaappokkjfaaPRoundStaysx12
import Derived.Test.YtmgiaappokkjfaaPRoundStaysx13
import Derived.Test.YtmgiaappokkjfaaPRoundStaysx14
import Derived.Test.YtmgiaappokkjfaaPRoundStaysx15
import Derived.Test.YtmgiaappokkjfaaPRoundStaysx16
import Derived.Test.YtmgiaappokkjfaaPRoundStaysx17
namespace Go.Proofs.Ytmgiaappokkjfaa.PRoundStays
open Go.RowKit Go.Proofs.YtmgiaappokkjfaaX Go.Proofs.YtmgiaappokkjfaaW.PrintWords Go.Proofs.YtmgiaappokkjfaaW.PrintLast Go.Proofs.YtmgiaappokkjfaaW.PrintMore
attribute [local go_sem] max2_int min2_int max_two min_two max_three min_three max_four min_four   -- for this text's walks alone
set_option linter.unusedVariables false
set_option linter.unusedSimpArgs false

attribute [local go_sem] px_store_float px_neg_float
attribute [local go_sem] px_eqarr67 px_nilq24 px_nilq25
end Go.Proofs.Ytmgiaappokkjfaa.PRoundStays
