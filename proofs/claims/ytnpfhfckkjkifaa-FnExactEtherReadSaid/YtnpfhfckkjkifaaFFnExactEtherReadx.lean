-- Functions and their contracts, written by a program of this claim (wip/tools/oprint.py) out of the translation.
import Derived.Test.YtnpfhfckkjkifaaFFnExactEtherReadx0
import Derived.Test.YtnpfhfckkjkifaaFFnExactEtherReadx1
import Derived.Test.YtnpfhfckkjkifaaFFnExactEtherReadx2
import Derived.Test.YtnpfhfckkjkifaaFFnExactEtherReadx3
import Derived.Test.YtnpfhfckkjkifaaFFnExactEtherReadx4
import Derived.Test.YtnpfhfckkjkifaaFFnExactEtherReadx5
namespace Go.Proofs.Ytnpfhfckkjkifaa.FFnExactEtherRead
open Go.RowKit Go.Proofs.YtnpfhfckkjkifaaW.PrintWords Go.Proofs.YtnpfhfckkjkifaaW.PrintLast Go.Proofs.YtnpfhfckkjkifaaW.PrintMore
attribute [local go_sem] max2_int min2_int max_two min_two max_three min_three max_four min_four   -- for this text's walks alone
set_option linter.unusedVariables false
set_option linter.unusedSimpArgs false

end Go.Proofs.Ytnpfhfckkjkifaa.FFnExactEtherRead
