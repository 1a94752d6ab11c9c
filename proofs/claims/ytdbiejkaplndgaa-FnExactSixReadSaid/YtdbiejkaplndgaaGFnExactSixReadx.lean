-- Functions and their contracts, written by a program of this claim (wip/tools/oprint.py) out of the translation.
import Derived.Test.YtdbiejkaplndgaaGFnExactSixReadx0
import Derived.Test.YtdbiejkaplndgaaGFnExactSixReadx1
import Derived.Test.YtdbiejkaplndgaaGFnExactSixReadx2
import Derived.Test.YtdbiejkaplndgaaGFnExactSixReadx3
import Derived.Test.YtdbiejkaplndgaaGFnExactSixReadx4
import Derived.Test.YtdbiejkaplndgaaGFnExactSixReadx5
import Derived.Test.YtdbiejkaplndgaaGFnExactSixReadx6
import Derived.Test.YtdbiejkaplndgaaGFnExactSixReadx7
import Derived.Test.YtdbiejkaplndgaaGFnExactSixReadx8
namespace Go.Proofs.Ytdbiejkaplndgaa.FFnExactSixRead
open Go.RowKit Go.Proofs.YtdbiejkaplndgaaW.PrintWords Go.Proofs.YtdbiejkaplndgaaW.PrintLast Go.Proofs.YtdbiejkaplndgaaW.PrintMore
attribute [local go_sem] max2_int min2_int max_two min_two max_three min_three max_four min_four   -- for this text's walks alone
set_option linter.unusedVariables false
set_option linter.unusedSimpArgs false

end Go.Proofs.Ytdbiejkaplndgaa.FFnExactSixRead
