/- Words for the walks: the kit's printed words, without those that no walk of this seat names (shake.py). -/
import Derived.SizedLaws
import Derived.ChangeSlices
namespace Go.Proofs.YtooamacekmjpaaaW.PrintWords
open Go.ChangeShapes Go.WideShapes
end Go.Proofs.YtooamacekmjpaaaW.PrintWords
