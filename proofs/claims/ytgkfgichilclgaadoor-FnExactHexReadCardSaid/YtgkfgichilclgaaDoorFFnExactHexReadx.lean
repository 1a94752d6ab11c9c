-- Functions and their contracts, written by a program of this claim (wip/tools/oprint.py) out of the translation.
import Derived.Test.YtgkfgichilclgaaDoorFFnExactHexReadx0
import Derived.Test.YtgkfgichilclgaaDoorFFnExactHexReadx1
import Derived.Test.YtgkfgichilclgaaDoorFFnExactHexReadx2
namespace Go.Proofs.YtgkfgichilclgaaDoor.FFnExactHexRead
open Go.RowKit Go.Proofs.YtgkfgichilclgaaDoorW.PrintWords Go.Proofs.YtgkfgichilclgaaDoorW.PrintLast Go.Proofs.YtgkfgichilclgaaDoorW.PrintMore
attribute [local go_sem] max2_int min2_int max_two min_two max_three min_three max_four min_four   -- for this text's walks alone
set_option linter.unusedVariables false
set_option linter.unusedSimpArgs false

end Go.Proofs.YtgkfgichilclgaaDoor.FFnExactHexRead
