-- The words that this claim uses, cut by a program of this repo (wip/wprune.py) out of what print.sh printed.
import Derived.Test.YteokilffbcbllaaZFnBestWInv
import Derived.Test.YteokilffbcbllaaZFnBestWFootNe
namespace Go.Proofs.YteokilffbcbllaaW.PrintWords
open Go.RowKit
end Go.Proofs.YteokilffbcbllaaW.PrintWords
namespace Go.Proofs.YteokilffbcbllaaW.PrintLast
end Go.Proofs.YteokilffbcbllaaW.PrintLast
