-- Functions and their contracts, written by a program of this claim (wip/tools/oprint.py) out of the translation.
import Derived.Test.YthkocmpilkoibaaFFnExactSixOkx0
import Derived.Test.YthkocmpilkoibaaFFnExactSixOkx1
import Derived.Test.YthkocmpilkoibaaFFnExactSixOkx2
import Derived.Test.YthkocmpilkoibaaFFnExactSixOkx3
import Derived.Test.YthkocmpilkoibaaFFnExactSixOkx4
import Derived.Test.YthkocmpilkoibaaFFnExactSixOkx5
import Derived.Test.YthkocmpilkoibaaFFnExactSixOkx6
import Derived.Test.YthkocmpilkoibaaFFnExactSixOkx7
namespace Go.Proofs.Ythkocmpilkoibaa.FFnExactSixOk
open Go.RowKit Go.Proofs.YthkocmpilkoibaaW.PrintWords Go.Proofs.YthkocmpilkoibaaW.PrintLast Go.Proofs.YthkocmpilkoibaaW.PrintMore
attribute [local go_sem] max2_int min2_int max_two min_two max_three min_three max_four min_four   -- for this text's walks alone
set_option linter.unusedVariables false
set_option linter.unusedSimpArgs false

end Go.Proofs.Ythkocmpilkoibaa.FFnExactSixOk
