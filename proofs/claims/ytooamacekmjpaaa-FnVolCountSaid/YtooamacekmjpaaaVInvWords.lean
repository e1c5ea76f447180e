/- Words for the walks: the kit's printed words, without those that no walk of this seat names (shake.py). -/
import Derived.Test.YtooamacekmjpaaaVInv
import Derived.Test.YtooamacekmjpaaaVFootNe
namespace Go.Proofs.YtooamacekmjpaaaW.PrintWords
open Go.RowKit
end Go.Proofs.YtooamacekmjpaaaW.PrintWords
namespace Go.Proofs.YtooamacekmjpaaaW.PrintLast
section
variable {ops : Array Oper} {a : Act} {o og : Oper} {g : Nat} {t : Tmp} {u : Bool}
end
end Go.Proofs.YtooamacekmjpaaaW.PrintLast
