-- Functions and their contracts, written by a program of this claim (wip/tools/oprint.py) out of the translation.
import Derived.Test.YthkocmpilkoibaaFFnExactPrefixInx0
import Derived.Test.YthkocmpilkoibaaFFnExactPrefixInx1
import Derived.Test.YthkocmpilkoibaaFFnExactPrefixInx2
import Derived.Test.YthkocmpilkoibaaFFnExactPrefixInx3
import Derived.Test.YthkocmpilkoibaaFFnExactPrefixInx4
import Derived.Test.YthkocmpilkoibaaFFnExactPrefixInx5
import Derived.Test.YthkocmpilkoibaaFFnExactPrefixInx6
import Derived.Test.YthkocmpilkoibaaFFnExactPrefixInx7
import Derived.Test.YthkocmpilkoibaaFFnExactPrefixInx8
import Derived.Test.YthkocmpilkoibaaFFnExactPrefixInx9
import Derived.Test.YthkocmpilkoibaaFFnExactPrefixInx10
import Derived.Test.YthkocmpilkoibaaFFnExactPrefixInx11
import Derived.Test.YthkocmpilkoibaaFFnExactPrefixInx12
import Derived.Test.YthkocmpilkoibaaFFnExactPrefixInx13
namespace Go.Proofs.Ythkocmpilkoibaa.FFnExactPrefixIn
open Go.RowKit Go.Proofs.YthkocmpilkoibaaW.PrintWords Go.Proofs.YthkocmpilkoibaaW.PrintLast Go.Proofs.YthkocmpilkoibaaW.PrintMore
attribute [local go_sem] max2_int min2_int max_two min_two max_three min_three max_four min_four   -- for this text's walks alone
set_option linter.unusedVariables false
set_option linter.unusedSimpArgs false

end Go.Proofs.Ythkocmpilkoibaa.FFnExactPrefixIn
