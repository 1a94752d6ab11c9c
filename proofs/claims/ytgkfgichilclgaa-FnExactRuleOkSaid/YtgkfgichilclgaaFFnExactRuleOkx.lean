-- Functions and their contracts, written by a program of this claim (wip/tools/oprint.py) out of the translation.
import Derived.Test.YtgkfgichilclgaaFFnExactRuleOkx0
import Derived.Test.YtgkfgichilclgaaFFnExactRuleOkx1
import Derived.Test.YtgkfgichilclgaaFFnExactRuleOkx2
import Derived.Test.YtgkfgichilclgaaFFnExactRuleOkx3
import Derived.Test.YtgkfgichilclgaaFFnExactRuleOkx4
import Derived.Test.YtgkfgichilclgaaFFnExactRuleOkx5
import Derived.Test.YtgkfgichilclgaaFFnExactRuleOkx6
import Derived.Test.YtgkfgichilclgaaFFnExactRuleOkx7
import Derived.Test.YtgkfgichilclgaaFFnExactRuleOkx8
import Derived.Test.YtgkfgichilclgaaFFnExactRuleOkx9
import Derived.Test.YtgkfgichilclgaaFFnExactRuleOkx10
import Derived.Test.YtgkfgichilclgaaFFnExactRuleOkx11
import Derived.Test.YtgkfgichilclgaaFFnExactRuleOkx12
namespace Go.Proofs.Ytgkfgichilclgaa.FFnExactRuleOk
open Go.RowKit Go.Proofs.YtgkfgichilclgaaW.PrintWords Go.Proofs.YtgkfgichilclgaaW.PrintLast Go.Proofs.YtgkfgichilclgaaW.PrintMore
attribute [local go_sem] max2_int min2_int max_two min_two max_three min_three max_four min_four   -- for this text's walks alone
set_option linter.unusedVariables false
set_option linter.unusedSimpArgs false

end Go.Proofs.Ytgkfgichilclgaa.FFnExactRuleOk
