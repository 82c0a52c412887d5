/- Written by a program of this session (wip/tool/px.py) over the kit's print: what the code that the law FrontSteps reaches computes, function by function, and the law's row. -/
import Derived.Test.YtjfmhahlmnnacaaPFrontStepsx0
import Derived.Test.YtjfmhahlmnnacaaPFrontStepsx1
import Derived.Test.YtjfmhahlmnnacaaPFrontStepsx2
import Derived.Test.YtjfmhahlmnnacaaPFrontStepsx3
import Derived.Test.YtjfmhahlmnnacaaPFrontStepsx4
import Derived.Test.YtjfmhahlmnnacaaPFrontStepsx5
import Derived.Test.YtjfmhahlmnnacaaPFrontStepsx6
import Derived.Test.YtjfmhahlmnnacaaPFrontStepsx7
import Derived.Test.YtjfmhahlmnnacaaPFrontStepsx8
import Derived.Test.YtjfmhahlmnnacaaPFrontStepsx9
import Derived.Test.YtjfmhahlmnnacaaPFrontStepsx10
import Derived.Test.YtjfmhahlmnnacaaPFrontStepsx11
import Derived.Test.YtjfmhahlmnnacaaPFrontStepsx12
namespace Go.Proofs.Ytjfmhahlmnnacaa.PFrontSteps
open Go.RowKit Go.Proofs.YtjfmhahlmnnacaaX Go.Proofs.YtjfmhahlmnnacaaW.PrintWords Go.Proofs.YtjfmhahlmnnacaaW.PrintLast Go.Proofs.YtjfmhahlmnnacaaW.PrintMore
attribute [local go_sem] max2_int min2_int max_two min_two max_three min_three max_four min_four   -- for this text's walks alone
set_option linter.unusedVariables false
set_option linter.unusedSimpArgs false

attribute [local go_sem] px_nilq22
end Go.Proofs.Ytjfmhahlmnnacaa.PFrontSteps
