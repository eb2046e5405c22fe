-- The words that this claim uses, cut by a program of this repo (wip/wprune.py) out of what print.sh printed.
import Derived.SizedLaws
import Derived.ChangeSlices
namespace Go.Proofs.YteokilffbcbllaaW.PrintWords
open Go.ChangeShapes Go.WideShapes
end Go.Proofs.YteokilffbcbllaaW.PrintWords
