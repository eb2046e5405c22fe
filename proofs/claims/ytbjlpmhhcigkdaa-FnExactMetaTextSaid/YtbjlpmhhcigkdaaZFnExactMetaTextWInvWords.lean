-- The words that this claim uses, cut by a program of this repo (wip/wprune.py) out of what print.sh printed.
import Derived.Test.YtbjlpmhhcigkdaaZFnExactMetaTextWInv
import Derived.Test.YtbjlpmhhcigkdaaZFnExactMetaTextWFootNe
namespace Go.Proofs.YtbjlpmhhcigkdaaW.PrintWords
open Go.RowKit
end Go.Proofs.YtbjlpmhhcigkdaaW.PrintWords
namespace Go.Proofs.YtbjlpmhhcigkdaaW.PrintLast
end Go.Proofs.YtbjlpmhhcigkdaaW.PrintLast
