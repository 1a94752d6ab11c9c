-- Functions and their contracts, written by a program of this claim (wip/tools/oprint.py) out of the translation.
import Derived.Test.YtgkfgichilclgaaFFnExactRuleHasx0
import Derived.Test.YtgkfgichilclgaaFFnExactRuleHasx1
import Derived.Test.YtgkfgichilclgaaFFnExactRuleHasx2
import Derived.Test.YtgkfgichilclgaaFFnExactRuleHasx3
import Derived.Test.YtgkfgichilclgaaFFnExactRuleHasx4
import Derived.Test.YtgkfgichilclgaaFFnExactRuleHasx5
import Derived.Test.YtgkfgichilclgaaFFnExactRuleHasx6
import Derived.Test.YtgkfgichilclgaaFFnExactRuleHasx7
import Derived.Test.YtgkfgichilclgaaFFnExactRuleHasx8
import Derived.Test.YtgkfgichilclgaaFFnExactRuleHasx9
import Derived.Test.YtgkfgichilclgaaFFnExactRuleHasx10
import Derived.Test.YtgkfgichilclgaaFFnExactRuleHasx11
import Derived.Test.YtgkfgichilclgaaFFnExactRuleHasx12
import Derived.Test.YtgkfgichilclgaaFFnExactRuleHasx13
import Derived.Test.YtgkfgichilclgaaFFnExactRuleHasx14
import Derived.Test.YtgkfgichilclgaaFFnExactRuleHasx15
import Derived.Test.YtgkfgichilclgaaFFnExactRuleHasx16
namespace Go.Proofs.Ytgkfgichilclgaa.FFnExactRuleHas
open Go.RowKit Go.Proofs.YtgkfgichilclgaaW.PrintWords Go.Proofs.YtgkfgichilclgaaW.PrintLast Go.Proofs.YtgkfgichilclgaaW.PrintMore
attribute [local go_sem] max2_int min2_int max_two min_two max_three min_three max_four min_four   -- for this text's walks alone
set_option linter.unusedVariables false
set_option linter.unusedSimpArgs false

end Go.Proofs.Ytgkfgichilclgaa.FFnExactRuleHas
