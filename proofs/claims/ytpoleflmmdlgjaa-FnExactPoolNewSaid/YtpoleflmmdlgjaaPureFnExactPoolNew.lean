/- The program's new value is the reference's, and it is memory of its own. -/
import Derived.Test.YtpoleflmmdlgjaaQFnExactPoolNew3
import Derived.Test.YtpoleflmmdlgjaaU
set_option linter.unusedVariables false
namespace Go.Proofs.Ytpoleflmmdlgjaa.Pure
open Go.RowKit Go.Proofs.Ytpoleflmmdlgjaa.PFnExactPoolNew Go.Proofs.YtpoleflmmdlgjaaW.PrintWords Go.Proofs.YtpoleflmmdlgjaaW.PrintLast Go.Proofs.YtpoleflmmdlgjaaU
theorem FnExactPoolNew : ∃ k, laws_FnExactPoolNew.f k = some true := ⟨60, by decide +kernel⟩
end Go.Proofs.Ytpoleflmmdlgjaa.Pure
