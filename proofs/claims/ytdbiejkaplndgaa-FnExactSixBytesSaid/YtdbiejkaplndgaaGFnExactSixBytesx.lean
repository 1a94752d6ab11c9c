-- Functions and their contracts, written by a program of this claim (wip/tools/oprint.py) out of the translation.
import Derived.Test.YtdbiejkaplndgaaGFnExactSixBytesx0
import Derived.Test.YtdbiejkaplndgaaGFnExactSixBytesx1
import Derived.Test.YtdbiejkaplndgaaGFnExactSixBytesx2
import Derived.Test.YtdbiejkaplndgaaGFnExactSixBytesx3
import Derived.Test.YtdbiejkaplndgaaGFnExactSixBytesx4
import Derived.Test.YtdbiejkaplndgaaGFnExactSixBytesx5
import Derived.Test.YtdbiejkaplndgaaGFnExactSixBytesx6
import Derived.Test.YtdbiejkaplndgaaGFnExactSixBytesx7
import Derived.Test.YtdbiejkaplndgaaGFnExactSixBytesx8
import Derived.Test.YtdbiejkaplndgaaGFnExactSixBytesx9
import Derived.Test.YtdbiejkaplndgaaGFnExactSixBytesx10
namespace Go.Proofs.Ytdbiejkaplndgaa.FFnExactSixBytes
open Go.RowKit Go.Proofs.YtdbiejkaplndgaaW.PrintWords Go.Proofs.YtdbiejkaplndgaaW.PrintLast Go.Proofs.YtdbiejkaplndgaaW.PrintMore
attribute [local go_sem] max2_int min2_int max_two min_two max_three min_three max_four min_four   -- for this text's walks alone
set_option linter.unusedVariables false
set_option linter.unusedSimpArgs false

end Go.Proofs.Ytdbiejkaplndgaa.FFnExactSixBytes
