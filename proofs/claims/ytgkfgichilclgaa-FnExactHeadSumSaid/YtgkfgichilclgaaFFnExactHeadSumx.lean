-- Functions and their contracts, written by a program of this claim (wip/tools/oprint.py) out of the translation.
import Derived.Test.YtgkfgichilclgaaFFnExactHeadSumx0
import Derived.Test.YtgkfgichilclgaaFFnExactHeadSumx1
import Derived.Test.YtgkfgichilclgaaFFnExactHeadSumx2
import Derived.Test.YtgkfgichilclgaaFFnExactHeadSumx3
import Derived.Test.YtgkfgichilclgaaFFnExactHeadSumx4
import Derived.Test.YtgkfgichilclgaaFFnExactHeadSumx5
import Derived.Test.YtgkfgichilclgaaFFnExactHeadSumx6
import Derived.Test.YtgkfgichilclgaaFFnExactHeadSumx7
namespace Go.Proofs.Ytgkfgichilclgaa.FFnExactHeadSum
open Go.RowKit Go.Proofs.YtgkfgichilclgaaW.PrintWords Go.Proofs.YtgkfgichilclgaaW.PrintLast Go.Proofs.YtgkfgichilclgaaW.PrintMore
attribute [local go_sem] max2_int min2_int max_two min_two max_three min_three max_four min_four   -- for this text's walks alone
set_option linter.unusedVariables false
set_option linter.unusedSimpArgs false

end Go.Proofs.Ytgkfgichilclgaa.FFnExactHeadSum
