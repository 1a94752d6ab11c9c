-- Functions and their contracts, written by a program of this claim (wip/tools/oprint.py) out of the translation.
import Derived.Test.YtgkfgichilclgaaFFnExactFourBytesx0
import Derived.Test.YtgkfgichilclgaaFFnExactFourBytesx1
import Derived.Test.YtgkfgichilclgaaFFnExactFourBytesx2
import Derived.Test.YtgkfgichilclgaaFFnExactFourBytesx3
import Derived.Test.YtgkfgichilclgaaFFnExactFourBytesx4
import Derived.Test.YtgkfgichilclgaaFFnExactFourBytesx5
import Derived.Test.YtgkfgichilclgaaFFnExactFourBytesx6
import Derived.Test.YtgkfgichilclgaaFFnExactFourBytesx7
import Derived.Test.YtgkfgichilclgaaFFnExactFourBytesx8
import Derived.Test.YtgkfgichilclgaaFFnExactFourBytesx9
namespace Go.Proofs.Ytgkfgichilclgaa.FFnExactFourBytes
open Go.RowKit Go.Proofs.YtgkfgichilclgaaW.PrintWords Go.Proofs.YtgkfgichilclgaaW.PrintLast Go.Proofs.YtgkfgichilclgaaW.PrintMore
attribute [local go_sem] max2_int min2_int max_two min_two max_three min_three max_four min_four   -- for this text's walks alone
set_option linter.unusedVariables false
set_option linter.unusedSimpArgs false

end Go.Proofs.Ytgkfgichilclgaa.FFnExactFourBytes
