/- The constants of the program are those of the reference. -/
import Derived.Test.YtpoleflmmdlgjaaPFnExactConstantsx1
import Derived.Test.YtpoleflmmdlgjaaU
set_option linter.unusedVariables false
set_option linter.unusedSimpArgs false
namespace Go.Proofs.Ytpoleflmmdlgjaa.Pure
open Go.RowKit Go.Proofs.Ytpoleflmmdlgjaa.PFnExactConstants Go.Proofs.YtpoleflmmdlgjaaW.PrintWords Go.Proofs.YtpoleflmmdlgjaaW.PrintLast Go.Proofs.YtpoleflmmdlgjaaU
theorem FnExactConstants : laws_FnExactConstants.Pure := rfl
end Go.Proofs.Ytpoleflmmdlgjaa.Pure
