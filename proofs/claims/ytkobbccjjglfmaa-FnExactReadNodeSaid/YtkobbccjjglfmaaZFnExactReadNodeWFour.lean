-- The words that this claim uses, cut by a program of this repo (wip/wprune.py) out of what print.sh printed.
import Derived.Test.YtkobbccjjglfmaaZFnExactReadNodeWTab
namespace Go.Proofs.YtkobbccjjglfmaaW.PrintLast
end Go.Proofs.YtkobbccjjglfmaaW.PrintLast
