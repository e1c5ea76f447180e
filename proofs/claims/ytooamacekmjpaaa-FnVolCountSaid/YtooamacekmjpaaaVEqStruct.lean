/- Words for the walks: the kit's printed words, without those that no walk of this seat names (shake.py). -/
import Derived.Test.YtooamacekmjpaaaVWords
import Derived.Laws.StructEq
/-! ### 53. '==' of structs as_ one Bool -/
namespace Go.Proofs.YtooamacekmjpaaaW.PrintWords
open Go.RowKit
section
variable {P : Program} {d : Nat} {xs ys : Array Value} {f : Field} {fs : List Field} {a b : Value} {r s : Bool} {w : World}
end
end Go.Proofs.YtooamacekmjpaaaW.PrintWords
