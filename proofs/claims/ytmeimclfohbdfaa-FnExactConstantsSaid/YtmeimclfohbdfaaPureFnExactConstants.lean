/- The program's Constants returns what the reference's returns, for all arguments. No condition. -/
import Derived.Test.YtmeimclfohbdfaaFFnExactConstantsx
import Derived.Test.YtmeimclfohbdfaaBase
namespace Go.Proofs.Ytmeimclfohbdfaa.Pure
open Go.RowKit Go.Proofs.Ytmeimclfohbdfaa.FFnExactConstants Go.Proofs.YtmeimclfohbdfaaW.PrintWords Go.Proofs.YtmeimclfohbdfaaW.PrintLast Go.Proofs.YtmeimclfohbdfaaW.PrintMore Go.Proofs.Ytmeimclfohbdfaa.Base

set_option linter.unusedVariables false
set_option linter.unusedSimpArgs false
namespace ExactConstants
end ExactConstants
open ExactConstants

theorem FnExactConstants : laws_FnExactConstants.Pure := rfl

end Go.Proofs.Ytmeimclfohbdfaa.Pure
