-- Functions and their contracts, written by a program of this claim (wip/tools/oprint.py) out of the translation.
import Derived.Test.YthkocmpilkoibaaFFnExactPrefixHasx0
import Derived.Test.YthkocmpilkoibaaFFnExactPrefixHasx1
import Derived.Test.YthkocmpilkoibaaFFnExactPrefixHasx2
import Derived.Test.YthkocmpilkoibaaFFnExactPrefixHasx3
import Derived.Test.YthkocmpilkoibaaFFnExactPrefixHasx4
import Derived.Test.YthkocmpilkoibaaFFnExactPrefixHasx5
import Derived.Test.YthkocmpilkoibaaFFnExactPrefixHasx6
import Derived.Test.YthkocmpilkoibaaFFnExactPrefixHasx7
import Derived.Test.YthkocmpilkoibaaFFnExactPrefixHasx8
import Derived.Test.YthkocmpilkoibaaFFnExactPrefixHasx9
import Derived.Test.YthkocmpilkoibaaFFnExactPrefixHasx10
import Derived.Test.YthkocmpilkoibaaFFnExactPrefixHasx11
import Derived.Test.YthkocmpilkoibaaFFnExactPrefixHasx12
import Derived.Test.YthkocmpilkoibaaFFnExactPrefixHasx13
namespace Go.Proofs.Ythkocmpilkoibaa.FFnExactPrefixHas
open Go.RowKit Go.Proofs.YthkocmpilkoibaaW.PrintWords Go.Proofs.YthkocmpilkoibaaW.PrintLast Go.Proofs.YthkocmpilkoibaaW.PrintMore
attribute [local go_sem] max2_int min2_int max_two min_two max_three min_three max_four min_four   -- for this text's walks alone
set_option linter.unusedVariables false
set_option linter.unusedSimpArgs false

end Go.Proofs.Ythkocmpilkoibaa.FFnExactPrefixHas
