-- Functions and their contracts, written by a program of this claim (wip/tools/oprint.py) out of the translation.
import Derived.Test.YtdbiejkaplndgaaGFnExactUpperBytesx0
import Derived.Test.YtdbiejkaplndgaaGFnExactUpperBytesx1
import Derived.Test.YtdbiejkaplndgaaGFnExactUpperBytesx2
import Derived.Test.YtdbiejkaplndgaaGFnExactUpperBytesx3
import Derived.Test.YtdbiejkaplndgaaGFnExactUpperBytesx4
import Derived.Test.YtdbiejkaplndgaaGFnExactUpperBytesx5
import Derived.Test.YtdbiejkaplndgaaGFnExactUpperBytesx6
import Derived.Test.YtdbiejkaplndgaaGFnExactUpperBytesx7
import Derived.Test.YtdbiejkaplndgaaGFnExactUpperBytesx8
import Derived.Test.YtdbiejkaplndgaaGFnExactUpperBytesx9
import Derived.Test.YtdbiejkaplndgaaGFnExactUpperBytesx10
import Derived.Test.YtdbiejkaplndgaaGFnExactUpperBytesx11
import Derived.Test.YtdbiejkaplndgaaGFnExactUpperBytesx12
namespace Go.Proofs.Ytdbiejkaplndgaa.FFnExactUpperBytes
open Go.RowKit Go.Proofs.YtdbiejkaplndgaaW.PrintWords Go.Proofs.YtdbiejkaplndgaaW.PrintLast Go.Proofs.YtdbiejkaplndgaaW.PrintMore
attribute [local go_sem] max2_int min2_int max_two min_two max_three min_three max_four min_four   -- for this text's walks alone
set_option linter.unusedVariables false
set_option linter.unusedSimpArgs false

end Go.Proofs.Ytdbiejkaplndgaa.FFnExactUpperBytes
