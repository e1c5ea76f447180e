/- Small plain definitions, too: names, changes. -/
import Derived.Test.YtpoleflmmdlgjaaU
namespace Go.Proofs.YtpoleflmmdlgjaaU
open Go.RowKit Go.Proofs.YtpoleflmmdlgjaaW.PrintWords Go.Proofs.YtpoleflmmdlgjaaW.PrintLast
set_option linter.unusedVariables false
set_option linter.unusedSimpArgs false
/-! ### names, changes -/
def isName (s : ByteArray) : Bool := decide ((s.size : Int) = 1) && (decide (65 ≤ bt s 0) && decide (bt s 0 ≤ 68))
def empty (s : ByteArray) : Bool := s.toList == []
def opOk (kind : Int) (nm dst : ByteArray) (n : Int) (t : ByteArray) : Bool :=
  isName nm && (if kind = 1 then empty dst && (decide (1 ≤ n) && decide (n ≤ 6)) && empty t
    else if kind = 2 then empty dst && (decide (0 ≤ n) && decide (n ≤ 5)) && textOk t
    else if kind = 3 then isName dst && decide (n = 0) && empty t
    else if kind = 4 then empty dst && decide (n = 0) && empty t else false)

end Go.Proofs.YtpoleflmmdlgjaaU
