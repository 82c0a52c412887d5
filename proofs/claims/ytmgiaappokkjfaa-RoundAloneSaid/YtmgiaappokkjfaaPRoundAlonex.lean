/- Written by a program of this session (wip/tool/px.py) over the kit's print: what the code that the law RoundAlone reaches computes, function by function, and the law's row. -/
import Derived.Test.YtmgiaappokkjfaaPRoundAlonex0
import Derived.Test.YtmgiaappokkjfaaPRoundAlonex1
import Derived.Test.YtmgiaappokkjfaaPRoundAlonex2
import Derived.Test.YtmgiaappokkjfaaPRoundAlonex3
import Derived.Test.YtmgiaappokkjfaaPRoundAlonex4
import Derived.Test.YtmgiaappokkjfaaPRoundAlonex5
import Derived.Test.YtmgiaappokkjfaaPRoundAlonex6
import Derived.Test.YtmgiaappokkjfaaPRoundAlonex7
import Derived.Test.YtmgiaappokkjfaaPRoundAlonex8
import Derived.Test.YtmgiaappokkjfaaPRoundAlonex9
import Derived.Test.YtmgiaappokkjfaaPRoundAlonex10
import Derived.Test.YtmgiaappokkjfaaPRoundAlonex11
import Derived.Test.YtmgiaappokkjfaaPRoundAlonex12
import Derived.Test.YtmgiaappokkjfaaPRoundAlonex13
import Derived.Test.YtmgiaappokkjfaaPRoundAlonex14
import Derived.Test.YtmgiaappokkjfaaPRoundAlonex15
import Derived.Test.YtmgiaappokkjfaaPRoundAlonex16
import Derived.Test.YtmgiaappokkjfaaPRoundAlonex17
import Derived.Test.YtmgiaappokkjfaaPRoundAlonex18
import Derived.Test.YtmgiaappokkjfaaPRoundAlonex19
namespace Go.Proofs.Ytmgiaappokkjfaa.PRoundAlone
open Go.RowKit Go.Proofs.YtmgiaappokkjfaaX Go.Proofs.YtmgiaappokkjfaaW.PrintWords Go.Proofs.YtmgiaappokkjfaaW.PrintLast Go.Proofs.YtmgiaappokkjfaaW.PrintMore
attribute [local go_sem] max2_int min2_int max_two min_two max_three min_three max_four min_four   -- for this text's walks alone
set_option linter.unusedVariables false
set_option linter.unusedSimpArgs false

attribute [local go_sem] px_store_float px_neg_float px_call84
attribute [local go_sem] px_eqarr67 px_nilq24 px_nilq25
end Go.Proofs.Ytmgiaappokkjfaa.PRoundAlone
