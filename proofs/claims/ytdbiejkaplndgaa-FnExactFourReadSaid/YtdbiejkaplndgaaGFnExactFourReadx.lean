-- Functions and their contracts, written by a program of this claim (wip/tools/oprint.py) out of the translation.
import Derived.Test.YtdbiejkaplndgaaGFnExactFourReadx0
import Derived.Test.YtdbiejkaplndgaaGFnExactFourReadx1
import Derived.Test.YtdbiejkaplndgaaGFnExactFourReadx2
import Derived.Test.YtdbiejkaplndgaaGFnExactFourReadx3
import Derived.Test.YtdbiejkaplndgaaGFnExactFourReadx4
import Derived.Test.YtdbiejkaplndgaaGFnExactFourReadx5
import Derived.Test.YtdbiejkaplndgaaGFnExactFourReadx6
import Derived.Test.YtdbiejkaplndgaaGFnExactFourReadx7
import Derived.Test.YtdbiejkaplndgaaGFnExactFourReadx8
import Derived.Test.YtdbiejkaplndgaaGFnExactFourReadx9
import Derived.Test.YtdbiejkaplndgaaGFnExactFourReadx10
import Derived.Test.YtdbiejkaplndgaaGFnExactFourReadx11
import Derived.Test.YtdbiejkaplndgaaGFnExactFourReadx12
import Derived.Test.YtdbiejkaplndgaaGFnExactFourReadx13
namespace Go.Proofs.Ytdbiejkaplndgaa.FFnExactFourRead
open Go.RowKit Go.Proofs.YtdbiejkaplndgaaW.PrintWords Go.Proofs.YtdbiejkaplndgaaW.PrintLast Go.Proofs.YtdbiejkaplndgaaW.PrintMore
attribute [local go_sem] max2_int min2_int max_two min_two max_three min_three max_four min_four   -- for this text's walks alone
set_option linter.unusedVariables false
set_option linter.unusedSimpArgs false

end Go.Proofs.Ytdbiejkaplndgaa.FFnExactFourRead
