/- StoreNew of the program gives what StoreNew of the reference gives, in memory of its own each time. -/
import Derived.Test.YtpoleflmmdlgjaaQFnExactStoreNew2
import Derived.Test.YtpoleflmmdlgjaaU
set_option linter.unusedVariables false
set_option linter.unusedSimpArgs false
namespace Go.Proofs.Ytpoleflmmdlgjaa.Pure
open Go.RowKit Go.Proofs.Ytpoleflmmdlgjaa.PFnExactStoreNew Go.Proofs.YtpoleflmmdlgjaaW.PrintWords Go.Proofs.YtpoleflmmdlgjaaW.PrintLast Go.Proofs.YtpoleflmmdlgjaaU
set_option maxRecDepth 100000 in
theorem FnExactStoreNew : laws_FnExactStoreNew.Pure := ⟨30, by decide +kernel⟩
end Go.Proofs.Ytpoleflmmdlgjaa.Pure
