-- Functions and their contracts, written by a program of this claim (wip/tools/oprint.py) out of the translation.
import Derived.Test.YthkocmpilkoibaaFFnExactUpperOkx0
import Derived.Test.YthkocmpilkoibaaFFnExactUpperOkx1
import Derived.Test.YthkocmpilkoibaaFFnExactUpperOkx2
namespace Go.Proofs.Ythkocmpilkoibaa.FFnExactUpperOk
open Go.RowKit Go.Proofs.YthkocmpilkoibaaW.PrintWords Go.Proofs.YthkocmpilkoibaaW.PrintLast Go.Proofs.YthkocmpilkoibaaW.PrintMore
attribute [local go_sem] max2_int min2_int max_two min_two max_three min_three max_four min_four   -- for this text's walks alone
set_option linter.unusedVariables false
set_option linter.unusedSimpArgs false

end Go.Proofs.Ythkocmpilkoibaa.FFnExactUpperOk
