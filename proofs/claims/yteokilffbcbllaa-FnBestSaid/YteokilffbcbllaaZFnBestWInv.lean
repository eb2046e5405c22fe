-- The words that this claim uses, cut by a program of this repo (wip/wprune.py) out of what print.sh printed.
import Derived.Test.YteokilffbcbllaaZFnBestWTab
namespace Go.Proofs.YteokilffbcbllaaW.PrintLast
end Go.Proofs.YteokilffbcbllaaW.PrintLast
