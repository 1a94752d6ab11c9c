-- Functions and their contracts, written by a program of this claim (wip/tools/oprint.py) out of the translation.
import Derived.Test.YthkocmpilkoibaaFFnExactPrefixOkx0
import Derived.Test.YthkocmpilkoibaaFFnExactPrefixOkx1
import Derived.Test.YthkocmpilkoibaaFFnExactPrefixOkx2
import Derived.Test.YthkocmpilkoibaaFFnExactPrefixOkx3
import Derived.Test.YthkocmpilkoibaaFFnExactPrefixOkx4
import Derived.Test.YthkocmpilkoibaaFFnExactPrefixOkx5
import Derived.Test.YthkocmpilkoibaaFFnExactPrefixOkx6
import Derived.Test.YthkocmpilkoibaaFFnExactPrefixOkx7
import Derived.Test.YthkocmpilkoibaaFFnExactPrefixOkx8
import Derived.Test.YthkocmpilkoibaaFFnExactPrefixOkx9
import Derived.Test.YthkocmpilkoibaaFFnExactPrefixOkx10
import Derived.Test.YthkocmpilkoibaaFFnExactPrefixOkx11
namespace Go.Proofs.Ythkocmpilkoibaa.FFnExactPrefixOk
open Go.RowKit Go.Proofs.YthkocmpilkoibaaW.PrintWords Go.Proofs.YthkocmpilkoibaaW.PrintLast Go.Proofs.YthkocmpilkoibaaW.PrintMore
attribute [local go_sem] max2_int min2_int max_two min_two max_three min_three max_four min_four   -- for this text's walks alone
set_option linter.unusedVariables false
set_option linter.unusedSimpArgs false

end Go.Proofs.Ythkocmpilkoibaa.FFnExactPrefixOk
