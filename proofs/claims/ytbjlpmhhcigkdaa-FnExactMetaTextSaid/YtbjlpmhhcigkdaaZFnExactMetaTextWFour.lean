-- The words that this claim uses, cut by a program of this repo (wip/wprune.py) out of what print.sh printed.
import Derived.Test.YtbjlpmhhcigkdaaZFnExactMetaTextWTab
namespace Go.Proofs.YtbjlpmhhcigkdaaW.PrintLast
end Go.Proofs.YtbjlpmhhcigkdaaW.PrintLast
